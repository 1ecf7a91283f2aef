/- The law ReplicaWakes: for every input the call returns true, and each argument reads behind it as before. -/
import Derived.Test.YtoicjnggljeicaaRows
import Derived.Test.YtoicjnggljeicaaSg
import Derived.Test.YtoicjnggljeicaaEd
namespace Go.Proofs.Ytoicjnggljeicaa
open Go Go.Ev Go.ChangeShapes Go.WideShapes Go.ChangeAt Go.RowKit
theorem Try.own:ownKnob Try.prog.godebug=none:=by kernel_rfl
theorem Try.laidOut:laidOutB Try.prog=true:=by kernel_rfl
theorem rd58 (w:World):Rd Try.prog w 58 v_ActC:=Rd.iso (Rd.struct Try.underlying58 (by kernel_rfl) (by kernel_rfl) (RdF.cons (off:=0) (off':=1) (n:=4) (Rd.int Try.underlying3) (RdF.cons (off:=1) (off':=2) (n:=4) (Rd.int Try.underlying3) (RdF.cons (off:=2) (off':=3) (n:=4) (Rd.int Try.underlying3) (RdF.cons (off:=3) (off':=4) (n:=4) (Rd.str Try.underlying9) (RdF.nil (n:=4)) (by kernel_rfl)) (by kernel_rfl)) (by kernel_rfl)) (by kernel_rfl))) (fun y=>(Act.mk y.1 y.2.1 y.2.2.1 y.2.2.2.1)) (fun _=>rfl)
theorem law_read (w:World):RdA Try.prog w [52] (DA.one (DT.one di_lAct):DA TL ((List Act))):=RdA.one (RdV.one (d:=di_lAct) (Rd.slice Try.underlying52 (rd58 w) TL.lAct (fun _=>rfl) (fun _=>by kernel_rfl) (Nat.lt_of_lt_of_eq (by decide:0 < 4) (by kernel_rfl))) (.inr (.inr (.inr ⟨_,Try.underlying52⟩))))
theorem law_len0 {H:Type}{en:TypeId×Value→H}{W:World}{vs:List Value}{ds:List (DataW H)}{q:List MemPlace}{y:(List Act)}(hA:DataW.TrodAll en Try.prog W 0 (fun _=>true) true [52] vs ds q)(hy:All2 (RepS (g0 (wG W))) ((DA.one (DT.one di_lAct):DA TL ((List Act))).enc y) vs):y.length≤9223372036854775807:=by
  have h:=arg_len (L:=TL) (j:=0) (l:=TL.lAct y) (t:=52) hA hy (by kernel_rfl) rfl Try.underlying52
  exact Nat.le_trans (Nat.le_of_eq (@List.length_map _ _ y _).symm) h
set_option maxRecDepth 100000 in
theorem law_lifted (os:Os)(started:os.Started)(H:Type)(enc:TypeId×Value→H) :
    ReturnsInHanded {} Try.checked os 8 .any (Rows.replicaWakesSpec.pre6 enc Try.prog Try.f8 Rows.replicaWakesRow.domain false) (Rows.replicaWakesSpec.post enc Try.prog Try.f8 false true false false):=by
  refine returnsInHanded_of_change (C:=Try.checked) Try.own started (by kernel_rfl) Try.func8
    (ChangeSpec.witness6 (enc:=enc) (C:=Try.checked) false ⟨#[],#[.slice none 0 0],[]⟩ 8 (by kernel_rfl) (by kernel_rfl) (by kernel_rfl) (by kernel_rfl)) ?_
  intro W base args ds gs before hval hW _ _
  have hA:=hW
  obtain ⟨p,q,hA,_⟩:=hA
  have hp:Try.f8.params.toList=[52]:=by rw [Try.params8]
  obtain ⟨y,hy⟩:=law_read W H enc base .any args.toList ds p (fun j t v hj hv=>hval j t v (by rw [← hp] at hj;simpa using hj) (by simpa using hv)) (by rw [← hp];exact hA)
  have hA2:DataW.TrodAll enc Try.prog W 0 (fun _=>true) true [52] args.toList ds p:=by rw [← hp];exact hA
  have hl0:=law_len0 hA2 hy
  have hc:=law_calls (P:=Try.prog) (f:=8) _ un_replicaWakes ok_replicaWakes (G:=wG W) (w:=W) y (wakes_true y hl0) (fun _ _ _ h=>h) hy (by kernel_rfl)
  simp only [Array.toArray_toList] at hc
  refine hc.mono ?_
  rintro e W' ⟨rfl,hb⟩
  exact ⟨_,rfl,law_post Try.laidOut (by rw [hp];decide +kernel) rfl (by kernel_rfl) Try.underlying4 (fun ds hd=>by rw [show Try.f8.params.size=1 from by rw [← Array.length_toList,hp];rfl] at hd;match ds,hd with | [a],_=>rfl) hW hb⟩
theorem law_holds:Rows.ReplicaWakesSaid :=
  OpenClaim.holds_of_wide 8 Try.f8 rfl rfl rfl rfl rfl rfl rfl ⟨rfl,rfl,rfl,rfl,rfl⟩ rfl rfl rfl rfl rfl (by kernel_rfl) Try.func8 (by kernel_rfl)
    (of_decide_eq_true (by kernel_rfl)) (by unfold Func.isWrapper;first | (rw [if_pos (by decide +kernel)];kernel_rfl) | (rw [if_neg (by decide +kernel)];exact ⟨rfl,rfl⟩))
    (fun os started H enc _=>law_lifted os started H enc)
end Go.Proofs.Ytoicjnggljeicaa
