/- The law DeskDelta: for every input the call returns true, and each argument reads behind it as before. -/
import Derived.Test.YtcjpeijiaojeiaaGreatRows
import Derived.Test.YtcjpeijiaojeiaaGreatDl
import Derived.Test.YtcjpeijiaojeiaaGreatEd
namespace Go.Proofs.YtcjpeijiaojeiaaGreat
open Go Go.Ev Go.ChangeShapes Go.WideShapes Go.ChangeAt Go.RowKit
theorem Try.own:ownKnob Tryz.prog.godebug=none:=by kernel_rfl
theorem Try.laidOut:laidOutB Tryz.prog=true:=by kernel_rfl
theorem rd59 (w:World):Rd Tryz.prog w 59 v_EntryC:=Rd.iso (Rd.struct Tryz.underlying59 (by kernel_rfl) (by kernel_rfl) (RdF.cons (off:=0) (off':=1) (n:=3) (Rd.int Tryz.underlying3) (RdF.cons (off:=1) (off':=2) (n:=3) (Rd.int Tryz.underlying3) (RdF.cons (off:=2) (off':=3) (n:=3) (Rd.int Tryz.underlying3) (RdF.nil (n:=3)) (by kernel_rfl)) (by kernel_rfl)) (by kernel_rfl))) (fun y=>(Entry.mk y.1 y.2.1 y.2.2.1)) (fun _=>rfl)
theorem rd61 (w:World):Rd Tryz.prog w 61 v_OpC:=Rd.iso (Rd.struct Tryz.underlying61 (by kernel_rfl) (by kernel_rfl) (RdF.cons (off:=0) (off':=3) (n:=11) (rd59 w) (RdF.cons (off:=3) (off':=4) (n:=11) (Rd.int Tryz.underlying3) (RdF.cons (off:=4) (off':=5) (n:=11) (Rd.int Tryz.underlying3) (RdF.cons (off:=5) (off':=6) (n:=11) (Rd.int Tryz.underlying3) (RdF.cons (off:=6) (off':=7) (n:=11) (Rd.str Tryz.underlying9) (RdF.cons (off:=7) (off':=8) (n:=11) (Rd.str Tryz.underlying9) (RdF.cons (off:=8) (off':=9) (n:=11) (Rd.int Tryz.underlying3) (RdF.cons (off:=9) (off':=10) (n:=11) (Rd.int Tryz.underlying3) (RdF.cons (off:=10) (off':=11) (n:=11) (Rd.slice Tryz.underlying33 (rd59 w) TL.lEntry (fun _=>rfl) (fun _=>by kernel_rfl) (Nat.lt_of_lt_of_eq (by decide:0 < 3) (by kernel_rfl))) (RdF.nil (n:=11)) (by kernel_rfl)) (by kernel_rfl)) (by kernel_rfl)) (by kernel_rfl)) (by kernel_rfl)) (by kernel_rfl)) (by kernel_rfl)) (by kernel_rfl)) (by kernel_rfl))) (fun y=>(Op.mk y.1 y.2.1 y.2.2.1 y.2.2.2.1 y.2.2.2.2.1 y.2.2.2.2.2.1 y.2.2.2.2.2.2.1 y.2.2.2.2.2.2.2.1 y.2.2.2.2.2.2.2.2.1)) (fun _=>rfl)
theorem rd105 (w:World):Rd Tryz.prog w 105 v_WantC:=Rd.iso (Rd.struct Tryz.underlying105 (by kernel_rfl) (by kernel_rfl) (RdF.cons (off:=0) (off':=1) (n:=4) (Rd.str Tryz.underlying9) (RdF.cons (off:=1) (off':=2) (n:=4) (Rd.int Tryz.underlying3) (RdF.cons (off:=2) (off':=3) (n:=4) (Rd.int Tryz.underlying3) (RdF.cons (off:=3) (off':=4) (n:=4) (Rd.int Tryz.underlying3) (RdF.nil (n:=4)) (by kernel_rfl)) (by kernel_rfl)) (by kernel_rfl)) (by kernel_rfl))) (fun y=>(Want.mk y.1 y.2.1 y.2.2.1 y.2.2.2.1)) (fun _=>rfl)
theorem rd80 (w:World):Rd Tryz.prog w 80 v_ActC:=Rd.iso (Rd.struct Tryz.underlying80 (by kernel_rfl) (by kernel_rfl) (RdF.cons (off:=0) (off':=1) (n:=5) (Rd.int Tryz.underlying3) (RdF.cons (off:=1) (off':=2) (n:=5) (Rd.int Tryz.underlying3) (RdF.cons (off:=2) (off':=3) (n:=5) (Rd.int Tryz.underlying3) (RdF.cons (off:=3) (off':=4) (n:=5) (Rd.slice Tryz.underlying54 (rd105 w) TL.lWant (fun _=>rfl) (fun _=>by kernel_rfl) (Nat.lt_of_lt_of_eq (by decide:0 < 4) (by kernel_rfl))) (RdF.cons (off:=4) (off':=5) (n:=5) (Rd.slice Tryz.underlying39 (rd61 w) TL.lOp (fun _=>rfl) (fun _=>by kernel_rfl) (Nat.lt_of_lt_of_eq (by decide:0 < 11) (by kernel_rfl))) (RdF.nil (n:=5)) (by kernel_rfl)) (by kernel_rfl)) (by kernel_rfl)) (by kernel_rfl)) (by kernel_rfl))) (fun y=>(Act.mk y.1 y.2.1 y.2.2.1 y.2.2.2.1 y.2.2.2.2.1)) (fun _=>rfl)
theorem law_read (w:World):RdA Tryz.prog w [69,3,70,3] (DA.cons (DT.one di_lAct) (DA.cons (DT.one (DI.int .i64)) (DA.cons (DT.one di_lBool) (DA.one (DT.one (DI.int .i64))))):DA TL ((List Act)×Int×(List Bool)×Int)):=RdA.cons (RdV.one (d:=di_lAct) (Rd.slice Tryz.underlying69 (rd80 w) TL.lAct (fun _=>rfl) (fun _=>by kernel_rfl) (Nat.lt_of_lt_of_eq (by decide:0 < 5) (by kernel_rfl))) (.inr (.inr (.inr ⟨_,Tryz.underlying69⟩)))) (RdA.cons (RdV.one (d:=(DI.int .i64)) (Rd.int Tryz.underlying3) (.inl ⟨_,Tryz.underlying3⟩)) (RdA.cons (RdV.one (d:=di_lBool) (Rd.slice Tryz.underlying70 (Rd.bool Tryz.underlying4) TL.lBool (fun _=>rfl) (fun _=>by kernel_rfl) (Nat.lt_of_lt_of_eq (by decide:0 < 1) (by kernel_rfl))) (.inr (.inr (.inr ⟨_,Tryz.underlying70⟩)))) (RdA.one (RdV.one (d:=(DI.int .i64)) (Rd.int Tryz.underlying3) (.inl ⟨_,Tryz.underlying3⟩)))))
theorem law_len0 {H:Type}{en:TypeId×Value→H}{W:World}{vs:List Value}{ds:List (DataW H)}{q:List MemPlace}{y:(List Act)×Int×(List Bool)×Int}(hA:DataW.TrodAll en Tryz.prog W 0 (fun _=>true) true [69,3,70,3] vs ds q)(hy:All2 (RepS (g0 (wG W))) ((DA.cons (DT.one di_lAct) (DA.cons (DT.one (DI.int .i64)) (DA.cons (DT.one di_lBool) (DA.one (DT.one (DI.int .i64))))):DA TL ((List Act)×Int×(List Bool)×Int)).enc y) vs):y.1.length≤9223372036854775807:=by
  have h:=arg_len (L:=TL) (j:=0) (l:=TL.lAct y.1) (t:=69) hA hy (by kernel_rfl) rfl Tryz.underlying69
  exact Nat.le_trans (Nat.le_of_eq (@List.length_map _ _ y.1 _).symm) h
set_option maxRecDepth 100000 in
theorem law_lifted (os:Os)(started:os.Started)(H:Type)(enc:TypeId×Value→H) :
    ReturnsInHanded {} Tryz.checked os 5 .any (Rows.deskDeltaSpec.pre6 enc Tryz.prog Tryz.f5 Rows.deskDeltaRow.domain false) (Rows.deskDeltaSpec.post enc Tryz.prog Tryz.f5 false true false false):=by
  refine returnsInHanded_of_change (C:=Tryz.checked) Try.own started (by kernel_rfl) Tryz.func5
    (ChangeSpec.witness6 (enc:=enc) (C:=Tryz.checked) false ⟨#[],#[.slice none 0 0,.int .i64 0,.slice none 0 0,.int .i64 0],[]⟩ 8 (by kernel_rfl) (by kernel_rfl) (by kernel_rfl) (by kernel_rfl)) ?_
  intro W base args ds gs before hval hW _ _
  have hA:=hW
  obtain ⟨p,q,hA,_⟩:=hA
  have hp:Tryz.f5.params.toList=[69,3,70,3]:=by rw [Tryz.params5]
  obtain ⟨y,hy⟩:=law_read W H enc base .any args.toList ds p (fun j t v hj hv=>hval j t v (by rw [← hp] at hj;simpa using hj) (by simpa using hv)) (by rw [← hp];exact hA)
  have hA2:DataW.TrodAll enc Tryz.prog W 0 (fun _=>true) true [69,3,70,3] args.toList ds p:=by rw [← hp];exact hA
  have hl0:=law_len0 hA2 hy
  have hc:=law_calls (P:=Tryz.prog) (f:=5) _ un_deskDelta ok_deskDelta (G:=wG W) (w:=W) y (delta_true y.1 y.2.1 y.2.2.1 y.2.2.2 hl0) (fun _ _ _ h=>h) hy (by kernel_rfl)
  simp only [Array.toArray_toList] at hc
  refine hc.mono ?_
  rintro e W' ⟨rfl,hb⟩
  exact ⟨_,rfl,law_post Try.laidOut (by rw [hp];decide +kernel) rfl (by kernel_rfl) Tryz.underlying4 (fun ds hd=>by rw [show Tryz.f5.params.size=4 from by rw [← Array.length_toList,hp];rfl] at hd;match ds,hd with | [a,b,c,d],_=>rfl) hW hb⟩
theorem cl1:(Rows.deskDeltaRow.inPlace == Tryz.pinned.checked.prog.inPlace 5)=true:=by kernel_rfl
theorem cl2:(Rows.deskDeltaRow.unfollowed == Tryz.pinned.checked.prog.unfollowed 5)=true:=by kernel_rfl
theorem cl3:(Rows.deskDeltaRow.recurses == Tryz.pinned.checked.prog.recurses 5)=true:=by kernel_rfl
theorem cl4:(Rows.deskDeltaRow.named == Tryz.pinned.checked.prog.varsNamed 5)=true:=by kernel_rfl
theorem law_closed:joinedFacts Tryz.pinned.checked.prog 5 Tryz.f5 Rows.deskDeltaSpec Rows.deskDeltaRow=true:=by
  unfold joinedFacts
  rw [cl1,cl2,cl3,cl4]
  kernel_rfl
theorem law_holds:Rows.DeskDeltaSaid :=
  OpenClaim.holds_of_wide 5 Tryz.f5 rfl rfl rfl rfl rfl rfl rfl ⟨rfl,rfl,rfl,rfl,rfl⟩ rfl rfl rfl rfl rfl (by kernel_rfl) Tryz.func5 law_closed
    (of_decide_eq_true (by kernel_rfl)) (by unfold Func.isWrapper;first | (rw [if_pos (by decide +kernel)];kernel_rfl) | (rw [if_neg (by decide +kernel)];exact ⟨rfl,rfl⟩))
    (fun os started H enc _=>law_lifted os started H enc)
end Go.Proofs.YtcjpeijiaojeiaaGreat
