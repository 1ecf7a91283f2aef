/- The law DeskTwice: a request that comes again is answered as it was, a merge answers how many are included, and neither changes anything the second time; no condition. -/
import Derived.Test.YtcjpeijiaojeiaaGreatRows
import Derived.Test.YtcjpeijiaojeiaaGreatTw
import Derived.Test.YtcjpeijiaojeiaaGreatEd
namespace Go.Proofs.YtcjpeijiaojeiaaGreat
open Go Go.Ev Go.ChangeShapes Go.WideShapes Go.ChangeAt Go.RowKit
theorem Fi.own:ownKnob Tryz.prog.godebug=none:=by kernel_rfl
theorem Fi.laidOut:laidOutB Tryz.prog=true:=by kernel_rfl
theorem Ur (w:World):Rd Tryz.prog w 59 jN:=Rd.lY (Rd.struct Tryz.underlying59 (by kernel_rfl) (by kernel_rfl) (db.cons (off:=0) (off':=1) (n:=3) (Rd.int Tryz.underlying3) (db.cons (off:=1) (off':=2) (n:=3) (Rd.int Tryz.underlying3) (db.cons (off:=2) (off':=3) (n:=3) (Rd.int Tryz.underlying3) (db.nil (n:=3)) (by kernel_rfl)) (by kernel_rfl)) (by kernel_rfl))) (fun y=>(aL.mk y.1 y.2.1 y.2.2.1)) (fun _=>rfl)
theorem aNZ (w:World):Rd Tryz.prog w 61 kU:=Rd.lY (Rd.struct Tryz.underlying61 (by kernel_rfl) (by kernel_rfl) (db.cons (off:=0) (off':=3) (n:=11) (Ur w) (db.cons (off:=3) (off':=4) (n:=11) (Rd.int Tryz.underlying3) (db.cons (off:=4) (off':=5) (n:=11) (Rd.int Tryz.underlying3) (db.cons (off:=5) (off':=6) (n:=11) (Rd.int Tryz.underlying3) (db.cons (off:=6) (off':=7) (n:=11) (Rd.str Tryz.underlying9) (db.cons (off:=7) (off':=8) (n:=11) (Rd.str Tryz.underlying9) (db.cons (off:=8) (off':=9) (n:=11) (Rd.int Tryz.underlying3) (db.cons (off:=9) (off':=10) (n:=11) (Rd.int Tryz.underlying3) (db.cons (off:=10) (off':=11) (n:=11) (Rd.slice Tryz.underlying33 (Ur w) TL.dq (fun _=>rfl) (fun _=>by kernel_rfl) (Nat.lt_of_lt_of_eq (by decide:0 < 3) (by kernel_rfl))) (db.nil (n:=11)) (by kernel_rfl)) (by kernel_rfl)) (by kernel_rfl)) (by kernel_rfl)) (by kernel_rfl)) (by kernel_rfl)) (by kernel_rfl)) (by kernel_rfl)) (by kernel_rfl))) (fun y=>(Op.mk y.1 y.2.1 y.2.2.1 y.2.2.2.1 y.2.2.2.2.1 y.2.2.2.2.2.1 y.2.2.2.2.2.2.1 y.2.2.2.2.2.2.2.1 y.2.2.2.2.2.2.2.2.1)) (fun _=>rfl)
theorem aM0 (w:World):Rd Tryz.prog w 105 mJ:=Rd.lY (Rd.struct Tryz.underlying105 (by kernel_rfl) (by kernel_rfl) (db.cons (off:=0) (off':=1) (n:=4) (Rd.str Tryz.underlying9) (db.cons (off:=1) (off':=2) (n:=4) (Rd.int Tryz.underlying3) (db.cons (off:=2) (off':=3) (n:=4) (Rd.int Tryz.underlying3) (db.cons (off:=3) (off':=4) (n:=4) (Rd.int Tryz.underlying3) (db.nil (n:=4)) (by kernel_rfl)) (by kernel_rfl)) (by kernel_rfl)) (by kernel_rfl))) (fun y=>(Want.mk y.1 y.2.1 y.2.2.1 y.2.2.2.1)) (fun _=>rfl)
theorem aNQ (w:World):Rd Tryz.prog w 80 mO:=Rd.lY (Rd.struct Tryz.underlying80 (by kernel_rfl) (by kernel_rfl) (db.cons (off:=0) (off':=1) (n:=5) (Rd.int Tryz.underlying3) (db.cons (off:=1) (off':=2) (n:=5) (Rd.int Tryz.underlying3) (db.cons (off:=2) (off':=3) (n:=5) (Rd.int Tryz.underlying3) (db.cons (off:=3) (off':=4) (n:=5) (Rd.slice Tryz.underlying54 (aM0 w) TL.eN (fun _=>rfl) (fun _=>by kernel_rfl) (Nat.lt_of_lt_of_eq (by decide:0 < 4) (by kernel_rfl))) (db.cons (off:=4) (off':=5) (n:=5) (Rd.slice Tryz.underlying39 (aNZ w) TL.eB (fun _=>rfl) (fun _=>by kernel_rfl) (Nat.lt_of_lt_of_eq (by decide:0 < 11) (by kernel_rfl))) (db.nil (n:=5)) (by kernel_rfl)) (by kernel_rfl)) (by kernel_rfl)) (by kernel_rfl)) (by kernel_rfl))) (fun y=>(Act.mk y.1 y.2.1 y.2.2.1 y.2.2.2.1 y.2.2.2.2.1)) (fun _=>rfl)
theorem aFk (w:World):kh Tryz.prog w [69] (DA.one (DT.one mF):DA TL ((List Act))):=kh.one (mb.one (d:=mF) (Rd.slice Tryz.underlying69 (aNQ w) TL.eU (fun _=>rfl) (fun _=>by kernel_rfl) (Nat.lt_of_lt_of_eq (by decide:0 < 5) (by kernel_rfl))) (.inr (.inr (.inr ⟨_,Tryz.underlying69⟩))))
theorem aFX {H:Type}{en:TypeId×Value→H}{W:World}{vs:List Value}{ds:List (DataW H)}{q:List MemPlace}{y:(List Act)}(hA:DataW.TrodAll en Tryz.prog W 0 (fun _=>true) true [69] vs ds q)(hy:aQ (bV (g0 (wG W))) ((DA.one (DT.one mF):DA TL ((List Act))).aJ y) vs):y.length≤9223372036854775807:=by
  have h:=aGu (L:=TL) (j:=0) (l:=TL.eU y) (t:=69) hA hy (by kernel_rfl) rfl Tryz.underlying69
  exact Nat.le_trans (Nat.le_of_eq (@List.length_map _ _ y _).symm) h
set_option maxRecDepth 100000 in
theorem aC4 (os:Os)(started:os.Started)(H:Type)(aJ:TypeId×Value→H) :
    ReturnsInHanded {} Tryz.checked os 8 .any (Rows.deskTwiceSpec.pre6 aJ Tryz.prog Tryz.f8 Rows.deskTwiceRow.domain false) (Rows.deskTwiceSpec.post aJ Tryz.prog Tryz.f8 false true false false):=by
  refine returnsInHanded_of_change (C:=Tryz.checked) Fi.own started (by kernel_rfl) Tryz.func8
    (ChangeSpec.witness6 (enc:=aJ) (C:=Tryz.checked) false ⟨#[],#[.slice none 0 0],[]⟩ 8 (by kernel_rfl) (by kernel_rfl) (by kernel_rfl) (by kernel_rfl)) ?_
  intro W base args ds gs before hval hW _ _
  have hA:=hW
  obtain ⟨p,q,hA,_⟩:=hA
  have hp:Tryz.f8.params.toList=[69]:=by rw [Tryz.params8]
  obtain ⟨y,hy⟩:=aFk W H aJ base .any args.toList ds p (fun j t v hj hv=>hval j t v (by rw [← hp] at hj;simpa using hj) (by simpa using hv)) (by rw [← hp];exact hA)
  have hA2:DataW.TrodAll aJ Tryz.prog W 0 (fun _=>true) true [69] args.toList ds p:=by rw [← hp];exact hA
  have hl0:=aFX hA2 hy
  have hc:=aEO (P:=Tryz.prog) (f:=8) _ AD Zo (G:=wG W) (w:=W) y (aCl y hl0) (fun _ _ _ h=>h) hy (by kernel_rfl)
  simp only [Array.toArray_toList] at hc
  refine hc.mono ?_
  rintro e W' ⟨rfl,hb⟩
  exact ⟨_,rfl,aGE Fi.laidOut (by rw [hp];decide +kernel) rfl (by kernel_rfl) Tryz.underlying4 (fun ds hd=>by rw [show Tryz.f8.params.size=1 from by rw [← Array.length_toList,hp];rfl] at hd;match ds,hd with | [a],_=>rfl) hW hb⟩
theorem cl1:(Rows.deskTwiceRow.inPlace == Tryz.pinned.checked.prog.inPlace 8)=true:=by kernel_rfl
theorem cl2:(Rows.deskTwiceRow.unfollowed == Tryz.pinned.checked.prog.unfollowed 8)=true:=by kernel_rfl
theorem cl3:(Rows.deskTwiceRow.recurses == Tryz.pinned.checked.prog.recurses 8)=true:=by kernel_rfl
theorem cl4:(Rows.deskTwiceRow.named == Tryz.pinned.checked.prog.varsNamed 8)=true:=by kernel_rfl
theorem aB2:joinedFacts Tryz.pinned.checked.prog 8 Tryz.f8 Rows.deskTwiceSpec Rows.deskTwiceRow=true:=by
  unfold joinedFacts
  rw [cl1,cl2,cl3,cl4]
  kernel_rfl
theorem law_holds:Rows.DeskTwiceSaid :=
  OpenClaim.holds_of_wide 8 Tryz.f8 rfl rfl rfl rfl rfl rfl rfl ⟨rfl,rfl,rfl,rfl,rfl⟩ rfl rfl rfl rfl rfl (by kernel_rfl) Tryz.func8 aB2
    (of_decide_eq_true (by kernel_rfl)) (by unfold Func.isWrapper;first | (rw [if_pos (by decide +kernel)];kernel_rfl) | (rw [if_neg (by decide +kernel)];exact ⟨rfl,rfl⟩))
    (fun os started H aJ _=>aC4 os started H aJ)
end Go.Proofs.YtcjpeijiaojeiaaGreat
