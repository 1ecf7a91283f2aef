/- The law DeskLoses: for every input the call returns true, and each argument reads behind it as before. -/
import Derived.Test.YtcjpeijiaojeiaaGreatRows
import Derived.Test.YtcjpeijiaojeiaaGreatLl
import Derived.Test.YtcjpeijiaojeiaaGreatEd
namespace Go.Proofs.YtcjpeijiaojeiaaGreat
open Go Go.Ev Go.ChangeShapes Go.WideShapes Go.ChangeAt Go.RowKit
theorem Try.own:ownKnob Tryz.prog.godebug=none:=by kernel_rfl
theorem Try.laidOut:laidOutB Tryz.prog=true:=by kernel_rfl
theorem law_read (w:World):RdA Tryz.prog w [3,27] (DA.cons (DT.one (DI.int .i64)) (DA.one (DT.one di_lInt)):DA TL (Int×(List Int))):=RdA.cons (RdV.one (d:=(DI.int .i64)) (Rd.int Tryz.underlying3) (.inl ⟨_,Tryz.underlying3⟩)) (RdA.one (RdV.one (d:=di_lInt) (Rd.slice Tryz.underlying27 (Rd.int Tryz.underlying3) TL.lInt (fun _=>rfl) (fun _=>by kernel_rfl) (Nat.lt_of_lt_of_eq (by decide:0 < 1) (by kernel_rfl))) (.inr (.inr (.inr ⟨_,Tryz.underlying27⟩)))))
set_option maxRecDepth 100000 in
theorem law_lifted (os:Os)(started:os.Started)(H:Type)(enc:TypeId×Value→H) :
    ReturnsInHanded {} Tryz.checked os 4 .any (Rows.deskLosesSpec.pre6 enc Tryz.prog Tryz.f4 Rows.deskLosesRow.domain false) (Rows.deskLosesSpec.post enc Tryz.prog Tryz.f4 false true false false):=by
  refine returnsInHanded_of_change (C:=Tryz.checked) Try.own started (by kernel_rfl) Tryz.func4
    (ChangeSpec.witness6 (enc:=enc) (C:=Tryz.checked) false ⟨#[],#[.int .i64 0,.slice none 0 0],[]⟩ 8 (by kernel_rfl) (by kernel_rfl) (by kernel_rfl) (by kernel_rfl)) ?_
  intro W base args ds gs before hval hW _ _
  have hA:=hW
  obtain ⟨p,q,hA,_⟩:=hA
  have hp:Tryz.f4.params.toList=[3,27]:=by rw [Tryz.params4]
  obtain ⟨y,hy⟩:=law_read W H enc base .any args.toList ds p (fun j t v hj hv=>hval j t v (by rw [← hp] at hj;simpa using hj) (by simpa using hv)) (by rw [← hp];exact hA)
  have hc:=law_calls (P:=Tryz.prog) (f:=4) _ un_deskLoses ok_deskLoses (fun p=>deskLoses_true p.1 p.2) (G:=wG W) (w:=W) y (fun _ _ _ h=>h) hy rfl
  simp only [Array.toArray_toList] at hc
  refine hc.mono ?_
  rintro e W' ⟨rfl,hb⟩
  exact ⟨_,rfl,law_post Try.laidOut (by rw [hp];decide +kernel) rfl (by kernel_rfl) Tryz.underlying4 (fun ds hd=>by rw [show Tryz.f4.params.size=2 from by rw [← Array.length_toList,hp];rfl] at hd;match ds,hd with | [a,b],_=>rfl) hW hb⟩
theorem law_holds:Rows.DeskLosesSaid :=
  OpenClaim.holds_of_wide 4 Tryz.f4 rfl rfl rfl rfl rfl rfl rfl ⟨rfl,rfl,rfl,rfl,rfl⟩ rfl rfl rfl rfl rfl (by kernel_rfl) Tryz.func4 (by kernel_rfl)
    (of_decide_eq_true (by kernel_rfl)) (by unfold Func.isWrapper;first | (rw [if_pos (by decide +kernel)];kernel_rfl) | (rw [if_neg (by decide +kernel)];exact ⟨rfl,rfl⟩))
    (fun os started H enc _=>law_lifted os started H enc)
end Go.Proofs.YtcjpeijiaojeiaaGreat
