/- The law DeskCloses: for every input the call returns true, and each argument reads behind it as before. -/
import Derived.Test.YtcjpeijiaojeiaaGreatRows
import Derived.Test.YtcjpeijiaojeiaaGreatLd
import Derived.Test.YtcjpeijiaojeiaaGreatEd
namespace Go.Proofs.YtcjpeijiaojeiaaGreat
open Go Go.Ev Go.ChangeShapes Go.WideShapes Go.ChangeAt Go.RowKit
theorem Try.own:ownKnob Tryz.prog.godebug=none:=by kernel_rfl
theorem Try.laidOut:laidOutB Tryz.prog=true:=by kernel_rfl
theorem law_read (w:World):RdA Tryz.prog w [3,3,3] (DA.cons (DT.one (DI.int .i64)) (DA.cons (DT.one (DI.int .i64)) (DA.one (DT.one (DI.int .i64)))):DA TL (Int×Int×Int)):=RdA.cons (RdV.one (d:=(DI.int .i64)) (Rd.int Tryz.underlying3) (.inl ⟨_,Tryz.underlying3⟩)) (RdA.cons (RdV.one (d:=(DI.int .i64)) (Rd.int Tryz.underlying3) (.inl ⟨_,Tryz.underlying3⟩)) (RdA.one (RdV.one (d:=(DI.int .i64)) (Rd.int Tryz.underlying3) (.inl ⟨_,Tryz.underlying3⟩))))
set_option maxRecDepth 100000 in
theorem law_lifted (os:Os)(started:os.Started)(H:Type)(enc:TypeId×Value→H) :
    ReturnsInHanded {} Tryz.checked os 11 .any (Rows.deskClosesSpec.pre6 enc Tryz.prog Tryz.f11 Rows.deskClosesRow.domain false) (Rows.deskClosesSpec.post enc Tryz.prog Tryz.f11 false true false false):=by
  refine returnsInHanded_of_change (C:=Tryz.checked) Try.own started (by kernel_rfl) Tryz.func11
    (ChangeSpec.witness6 (enc:=enc) (C:=Tryz.checked) false ⟨#[],#[.int .i64 0,.int .i64 0,.int .i64 0],[]⟩ 8 (by kernel_rfl) (by kernel_rfl) (by kernel_rfl) (by kernel_rfl)) ?_
  intro W base args ds gs before hval hW _ _
  have hA:=hW
  obtain ⟨p,q,hA,_⟩:=hA
  have hp:Tryz.f11.params.toList=[3,3,3]:=by rw [Tryz.params11]
  obtain ⟨y,hy⟩:=law_read W H enc base .any args.toList ds p (fun j t v hj hv=>hval j t v (by rw [← hp] at hj;simpa using hj) (by simpa using hv)) (by rw [← hp];exact hA)
  have hc:=law_calls (P:=Tryz.prog) (f:=11) _ un_deskCloses ok_deskCloses (fun p=>deskCloses_true p.1 p.2.1 p.2.2) (G:=wG W) (w:=W) y (fun _ _ _ h=>h) hy rfl
  simp only [Array.toArray_toList] at hc
  refine hc.mono ?_
  rintro e W' ⟨rfl,hb⟩
  exact ⟨_,rfl,law_post Try.laidOut (by rw [hp];decide +kernel) rfl (by kernel_rfl) Tryz.underlying4 (fun ds hd=>by rw [show Tryz.f11.params.size=3 from by rw [← Array.length_toList,hp];rfl] at hd;match ds,hd with | [a,b,c],_=>rfl) hW hb⟩
theorem law_holds:Rows.DeskClosesSaid :=
  OpenClaim.holds_of_wide 11 Tryz.f11 rfl rfl rfl rfl rfl rfl rfl ⟨rfl,rfl,rfl,rfl,rfl⟩ rfl rfl rfl rfl rfl (by kernel_rfl) Tryz.func11 (by kernel_rfl)
    (of_decide_eq_true (by kernel_rfl)) (by unfold Func.isWrapper;first | (rw [if_pos (by decide +kernel)];kernel_rfl) | (rw [if_neg (by decide +kernel)];exact ⟨rfl,rfl⟩))
    (fun os started H enc _=>law_lifted os started H enc)
end Go.Proofs.YtcjpeijiaojeiaaGreat
