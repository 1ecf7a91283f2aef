/- The law LocalOps: for every input the call returns true, and each argument reads behind it as before. -/
import Derived.Test.YthhfjodcgibhfaaGreatRows
import Derived.Test.YthhfjodcgibhfaaGreatLp
import Derived.Test.YthhfjodcgibhfaaGreatEd
namespace Go.Proofs.YthhfjodcgibhfaaGreat
open Go Go.Ev Go.ChangeShapes Go.WideShapes Go.ChangeAt Go.RowKit
theorem Try.own:ownKnob Tryz.prog.godebug=none:=by kernel_rfl
theorem Try.laidOut:laidOutB Tryz.prog=true:=by kernel_rfl
theorem law_read (w:World):RdA Tryz.prog w [25,38] (DA.cons (DT.one di_lInt) (DA.one (DT.one di_lBool)):DA TL ((List Int)×(List Bool))):=RdA.cons (RdV.one (d:=di_lInt) (Rd.slice Tryz.underlying25 (Rd.int Tryz.underlying3) TL.lInt (fun _=>rfl) (fun _=>by kernel_rfl) (Nat.lt_of_lt_of_eq (by decide:0 < 1) (by kernel_rfl))) (.inr (.inr (.inr ⟨_,Tryz.underlying25⟩)))) (RdA.one (RdV.one (d:=di_lBool) (Rd.slice Tryz.underlying38 (Rd.bool Tryz.underlying4) TL.lBool (fun _=>rfl) (fun _=>by kernel_rfl) (Nat.lt_of_lt_of_eq (by decide:0 < 1) (by kernel_rfl))) (.inr (.inr (.inr ⟨_,Tryz.underlying38⟩)))))
set_option maxRecDepth 100000 in
theorem law_lifted (os:Os)(started:os.Started)(H:Type)(enc:TypeId×Value→H) :
    ReturnsInHanded {} Tryz.checked os 6 .any (Rows.localOpsSpec.pre6 enc Tryz.prog Tryz.f6 Rows.localOpsRow.domain false) (Rows.localOpsSpec.post enc Tryz.prog Tryz.f6 false true false false):=by
  refine returnsInHanded_of_change (C:=Tryz.checked) Try.own started (by kernel_rfl) Tryz.func6
    (ChangeSpec.witness6 (enc:=enc) (C:=Tryz.checked) false ⟨#[],#[.slice none 0 0,.slice none 0 0],[]⟩ 8 (by kernel_rfl) (by kernel_rfl) (by kernel_rfl) (by kernel_rfl)) ?_
  intro W base args ds gs before hval hW _ _
  have hA:=hW
  obtain ⟨p,q,hA,_⟩:=hA
  have hp:Tryz.f6.params.toList=[25,38]:=by rw [Tryz.params6]
  obtain ⟨y,hy⟩:=law_read W H enc base .any args.toList ds p (fun j t v hj hv=>hval j t v (by rw [← hp] at hj;simpa using hj) (by simpa using hv)) (by rw [← hp];exact hA)
  have hc:=law_calls (P:=Tryz.prog) (f:=6) _ un_localOps ok_localOps (fun p=>localOps_true p.1 p.2) (G:=wG W) (w:=W) y (fun _ _ _ h=>h) hy rfl
  simp only [Array.toArray_toList] at hc
  refine hc.mono ?_
  rintro e W' ⟨rfl,hb⟩
  exact ⟨_,rfl,law_post Try.laidOut (by rw [hp];decide +kernel) rfl (by kernel_rfl) Tryz.underlying4 (fun ds hd=>by rw [show Tryz.f6.params.size=2 from by rw [← Array.length_toList,hp];rfl] at hd;match ds,hd with | [a,b],_=>rfl) hW hb⟩
theorem law_holds:Rows.LocalOpsSaid :=
  OpenClaim.holds_of_wide 6 Tryz.f6 rfl rfl rfl rfl rfl rfl rfl ⟨rfl,rfl,rfl,rfl,rfl⟩ rfl rfl rfl rfl rfl (by kernel_rfl) Tryz.func6 (by kernel_rfl)
    (of_decide_eq_true (by kernel_rfl)) (by unfold Func.isWrapper;first | (rw [if_pos (by decide +kernel)];kernel_rfl) | (rw [if_neg (by decide +kernel)];exact ⟨rfl,rfl⟩))
    (fun os started H enc _=>law_lifted os started H enc)
end Go.Proofs.YthhfjodcgibhfaaGreat
