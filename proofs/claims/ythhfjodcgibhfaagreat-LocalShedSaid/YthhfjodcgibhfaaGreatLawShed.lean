/- The law LocalShed: for every input the call returns true, and each argument reads behind it as before. -/
import Derived.Test.YthhfjodcgibhfaaGreatRows
import Derived.Test.YthhfjodcgibhfaaGreatLu
import Derived.Test.YthhfjodcgibhfaaGreatEd
namespace Go.Proofs.YthhfjodcgibhfaaGreat
open Go Go.Ev Go.ChangeShapes Go.WideShapes Go.ChangeAt Go.RowKit
theorem Try.own:ownKnob Tryz.prog.godebug=none:=by kernel_rfl
theorem Try.laidOut:laidOutB Tryz.prog=true:=by kernel_rfl
theorem law_read (w:World):RdA Tryz.prog w [25,3] (DA.cons (DT.one di_lInt) (DA.one (DT.one (DI.int .i64))):DA TL ((List Int)×Int)):=RdA.cons (RdV.one (d:=di_lInt) (Rd.slice Tryz.underlying25 (Rd.int Tryz.underlying3) TL.lInt (fun _=>rfl) (fun _=>by kernel_rfl) (Nat.lt_of_lt_of_eq (by decide:0 < 1) (by kernel_rfl))) (.inr (.inr (.inr ⟨_,Tryz.underlying25⟩)))) (RdA.one (RdV.one (d:=(DI.int .i64)) (Rd.int Tryz.underlying3) (.inl ⟨_,Tryz.underlying3⟩)))
set_option maxRecDepth 100000 in
theorem law_lifted (os:Os)(started:os.Started)(H:Type)(enc:TypeId×Value→H) :
    ReturnsInHanded {} Tryz.checked os 8 .any (Rows.localShedSpec.pre6 enc Tryz.prog Tryz.f8 Rows.localShedRow.domain false) (Rows.localShedSpec.post enc Tryz.prog Tryz.f8 false true false false):=by
  refine returnsInHanded_of_change (C:=Tryz.checked) Try.own started (by kernel_rfl) Tryz.func8
    (ChangeSpec.witness6 (enc:=enc) (C:=Tryz.checked) false ⟨#[],#[.slice none 0 0,.int .i64 0],[]⟩ 8 (by kernel_rfl) (by kernel_rfl) (by kernel_rfl) (by kernel_rfl)) ?_
  intro W base args ds gs before hval hW _ _
  have hA:=hW
  obtain ⟨p,q,hA,_⟩:=hA
  have hp:Tryz.f8.params.toList=[25,3]:=by rw [Tryz.params8]
  obtain ⟨y,hy⟩:=law_read W H enc base .any args.toList ds p (fun j t v hj hv=>hval j t v (by rw [← hp] at hj;simpa using hj) (by simpa using hv)) (by rw [← hp];exact hA)
  have hc:=law_calls (P:=Tryz.prog) (f:=8) _ un_localShed ok_localShed (fun p=>localShed_true p.1 p.2) (G:=wG W) (w:=W) y (fun _ _ _ h=>h) hy rfl
  simp only [Array.toArray_toList] at hc
  refine hc.mono ?_
  rintro e W' ⟨rfl,hb⟩
  exact ⟨_,rfl,law_post Try.laidOut (by rw [hp];decide +kernel) rfl (by kernel_rfl) Tryz.underlying4 (fun ds hd=>by rw [show Tryz.f8.params.size=2 from by rw [← Array.length_toList,hp];rfl] at hd;match ds,hd with | [a,b],_=>rfl) hW hb⟩
theorem law_holds:Rows.LocalShedSaid :=
  OpenClaim.holds_of_wide 8 Tryz.f8 rfl rfl rfl rfl rfl rfl rfl ⟨rfl,rfl,rfl,rfl,rfl⟩ rfl rfl rfl rfl rfl (by kernel_rfl) Tryz.func8 (by kernel_rfl)
    (of_decide_eq_true (by kernel_rfl)) (by unfold Func.isWrapper;first | (rw [if_pos (by decide +kernel)];kernel_rfl) | (rw [if_neg (by decide +kernel)];exact ⟨rfl,rfl⟩))
    (fun os started H enc _=>law_lifted os started H enc)
end Go.Proofs.YthhfjodcgibhfaaGreat
