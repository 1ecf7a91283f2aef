/- The law DeskSound: behind whatever comes the book is sound, counters are within their bounds, no identifier is bound twice, and each operation stands in the log once, those of an epoch one behind the other; no condition. -/
import Derived.Test.YtcjpeijiaojeiaaGreatRows
import Derived.Test.YtcjpeijiaojeiaaGreatSn
import Derived.Test.YtcjpeijiaojeiaaGreatEd
namespace Go.Proofs.YtcjpeijiaojeiaaGreat
open Go Go.Ev Go.ChangeShapes Go.WideShapes Go.ChangeAt Go.RowKit
theorem E7.own:ownKnob Tryz.prog.godebug=none:=by kernel_rfl
theorem E7.laidOut:laidOutB Tryz.prog=true:=by kernel_rfl
theorem TY (w:World):Rd Tryz.prog w 59 jq:=Rd.mU (Rd.struct Tryz.underlying59 (by kernel_rfl) (by kernel_rfl) (dz.cons (off:=0) (off':=1) (n:=3) (Rd.int Tryz.underlying3) (dz.cons (off:=1) (off':=2) (n:=3) (Rd.int Tryz.underlying3) (dz.cons (off:=2) (off':=3) (n:=3) (Rd.int Tryz.underlying3) (dz.nil (n:=3)) (by kernel_rfl)) (by kernel_rfl)) (by kernel_rfl))) (fun y=>(aL.mk y.1 y.2.1 y.2.2.1)) (fun _=>rfl)
theorem aLL (w:World):Rd Tryz.prog w 61 mG:=Rd.mU (Rd.struct Tryz.underlying61 (by kernel_rfl) (by kernel_rfl) (dz.cons (off:=0) (off':=3) (n:=11) (TY w) (dz.cons (off:=3) (off':=4) (n:=11) (Rd.int Tryz.underlying3) (dz.cons (off:=4) (off':=5) (n:=11) (Rd.int Tryz.underlying3) (dz.cons (off:=5) (off':=6) (n:=11) (Rd.int Tryz.underlying3) (dz.cons (off:=6) (off':=7) (n:=11) (Rd.str Tryz.underlying9) (dz.cons (off:=7) (off':=8) (n:=11) (Rd.str Tryz.underlying9) (dz.cons (off:=8) (off':=9) (n:=11) (Rd.int Tryz.underlying3) (dz.cons (off:=9) (off':=10) (n:=11) (Rd.int Tryz.underlying3) (dz.cons (off:=10) (off':=11) (n:=11) (Rd.slice Tryz.underlying33 (TY w) TL.eK (fun _=>rfl) (fun _=>by kernel_rfl) (Nat.lt_of_lt_of_eq (by decide:0 < 3) (by kernel_rfl))) (dz.nil (n:=11)) (by kernel_rfl)) (by kernel_rfl)) (by kernel_rfl)) (by kernel_rfl)) (by kernel_rfl)) (by kernel_rfl)) (by kernel_rfl)) (by kernel_rfl)) (by kernel_rfl))) (fun y=>(Op.mk y.1 y.2.1 y.2.2.1 y.2.2.2.1 y.2.2.2.2.1 y.2.2.2.2.2.1 y.2.2.2.2.2.2.1 y.2.2.2.2.2.2.2.1 y.2.2.2.2.2.2.2.2.1)) (fun _=>rfl)
theorem aH0 (w:World):Rd Tryz.prog w 105 nz:=Rd.mU (Rd.struct Tryz.underlying105 (by kernel_rfl) (by kernel_rfl) (dz.cons (off:=0) (off':=1) (n:=4) (Rd.str Tryz.underlying9) (dz.cons (off:=1) (off':=2) (n:=4) (Rd.int Tryz.underlying3) (dz.cons (off:=2) (off':=3) (n:=4) (Rd.int Tryz.underlying3) (dz.cons (off:=3) (off':=4) (n:=4) (Rd.int Tryz.underlying3) (dz.nil (n:=4)) (by kernel_rfl)) (by kernel_rfl)) (by kernel_rfl)) (by kernel_rfl))) (fun y=>(Want.mk y.1 y.2.1 y.2.2.1 y.2.2.2.1)) (fun _=>rfl)
theorem aMp (w:World):Rd Tryz.prog w 80 oI:=Rd.mU (Rd.struct Tryz.underlying80 (by kernel_rfl) (by kernel_rfl) (dz.cons (off:=0) (off':=1) (n:=5) (Rd.int Tryz.underlying3) (dz.cons (off:=1) (off':=2) (n:=5) (Rd.int Tryz.underlying3) (dz.cons (off:=2) (off':=3) (n:=5) (Rd.int Tryz.underlying3) (dz.cons (off:=3) (off':=4) (n:=5) (Rd.slice Tryz.underlying54 (aH0 w) TL.fD (fun _=>rfl) (fun _=>by kernel_rfl) (Nat.lt_of_lt_of_eq (by decide:0 < 4) (by kernel_rfl))) (dz.cons (off:=4) (off':=5) (n:=5) (Rd.slice Tryz.underlying39 (aLL w) TL.eV (fun _=>rfl) (fun _=>by kernel_rfl) (Nat.lt_of_lt_of_eq (by decide:0 < 11) (by kernel_rfl))) (dz.nil (n:=5)) (by kernel_rfl)) (by kernel_rfl)) (by kernel_rfl)) (by kernel_rfl)) (by kernel_rfl))) (fun y=>(Act.mk y.1 y.2.1 y.2.2.1 y.2.2.2.1 y.2.2.2.2.1)) (fun _=>rfl)
theorem aDT (w:World):lT Tryz.prog w [69] (DA.one (DT.one qC):DA TL ((List Act))):=lT.one (nI.one (d:=qC) (Rd.slice Tryz.underlying69 (aMp w) TL.fJ (fun _=>rfl) (fun _=>by kernel_rfl) (Nat.lt_of_lt_of_eq (by decide:0 < 5) (by kernel_rfl))) (.inr (.inr (.inr ⟨_,Tryz.underlying69⟩))))
theorem aDR {H:Type}{en:TypeId×Value→H}{W:World}{vs:List Value}{ds:List (DataW H)}{q:List MemPlace}{y:(List Act)}(hA:DataW.TrodAll en Tryz.prog W 0 (fun _=>true) true [69] vs ds q)(hy:aZ (bl (g0 (wG W))) ((DA.one (DT.one qC):DA TL ((List Act))).enc y) vs):y.length≤9223372036854775807:=by
  have h:=aFA (L:=TL) (j:=0) (l:=TL.fJ y) (t:=69) hA hy (by kernel_rfl) rfl Tryz.underlying69
  exact Nat.le_trans (Nat.le_of_eq (@List.length_map _ _ y _).symm) h
set_option maxRecDepth 100000 in
theorem Yk (os:Os)(started:os.Started)(H:Type)(enc:TypeId×Value→H) :
    ReturnsInHanded {} Tryz.checked os 7 .any (Rows.deskSoundSpec.pre6 enc Tryz.prog Tryz.f7 Rows.deskSoundRow.domain false) (Rows.deskSoundSpec.post enc Tryz.prog Tryz.f7 false true false false):=by
  refine returnsInHanded_of_change (C:=Tryz.checked) E7.own started (by kernel_rfl) Tryz.func7
    (ChangeSpec.witness6 (enc:=enc) (C:=Tryz.checked) false ⟨#[],#[.slice none 0 0],[]⟩ 8 (by kernel_rfl) (by kernel_rfl) (by kernel_rfl) (by kernel_rfl)) ?_
  intro W base args ds gs before hval hW _ _
  have hA:=hW
  obtain ⟨p,q,hA,_⟩:=hA
  have hp:Tryz.f7.params.toList=[69]:=by rw [Tryz.params7]
  obtain ⟨y,hy⟩:=aDT W H enc base .any args.toList ds p (fun j t v hj hv=>hval j t v (by rw [← hp] at hj;simpa using hj) (by simpa using hv)) (by rw [← hp];exact hA)
  have hA2:DataW.TrodAll enc Tryz.prog W 0 (fun _=>true) true [69] args.toList ds p:=by rw [← hp];exact hA
  have hl0:=aDR hA2 hy
  have hc:=aBw (P:=Tryz.prog) (f:=7) _ Fs X7 (G:=wG W) (w:=W) y (Zn y hl0) (fun _ _ _ h=>h) hy (by kernel_rfl)
  simp only [Array.toArray_toList] at hc
  refine hc.mono ?_
  rintro e W' ⟨rfl,hb⟩
  exact ⟨_,rfl,aEJ E7.laidOut (by rw [hp];decide +kernel) rfl (by kernel_rfl) Tryz.underlying4 (fun ds hd=>by rw [show Tryz.f7.params.size=1 from by rw [← Array.length_toList,hp];rfl] at hd;match ds,hd with | [a],_=>rfl) hW hb⟩
theorem cl1:(Rows.deskSoundRow.inPlace == Tryz.pinned.checked.prog.inPlace 7)=true:=by kernel_rfl
theorem cl2:(Rows.deskSoundRow.unfollowed == Tryz.pinned.checked.prog.unfollowed 7)=true:=by kernel_rfl
theorem cl3:(Rows.deskSoundRow.recurses == Tryz.pinned.checked.prog.recurses 7)=true:=by kernel_rfl
theorem cl4:(Rows.deskSoundRow.named == Tryz.pinned.checked.prog.varsNamed 7)=true:=by kernel_rfl
theorem Yj:joinedFacts Tryz.pinned.checked.prog 7 Tryz.f7 Rows.deskSoundSpec Rows.deskSoundRow=true:=by
  unfold joinedFacts
  rw [cl1,cl2,cl3,cl4]
  kernel_rfl
theorem law_holds:Rows.DeskSoundSaid :=
  OpenClaim.holds_of_wide 7 Tryz.f7 rfl rfl rfl rfl rfl rfl rfl ⟨rfl,rfl,rfl,rfl,rfl⟩ rfl rfl rfl rfl rfl (by kernel_rfl) Tryz.func7 Yj
    (of_decide_eq_true (by kernel_rfl)) (by unfold Func.isWrapper;first | (rw [if_pos (by decide +kernel)];kernel_rfl) | (rw [if_neg (by decide +kernel)];exact ⟨rfl,rfl⟩))
    (fun os started H enc _=>Yk os started H enc)
end Go.Proofs.YtcjpeijiaojeiaaGreat
