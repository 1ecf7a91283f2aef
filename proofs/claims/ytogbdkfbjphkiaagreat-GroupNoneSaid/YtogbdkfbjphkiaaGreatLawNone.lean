/- The law GroupNone: for every input the call returns true, and each argument reads behind it as before. -/
import Derived.Test.YtogbdkfbjphkiaaGreatLw
namespace Go.Proofs.YtogbdkfbjphkiaaGreat
open Go Go.Ev Go.ChangeShapes Go.WideShapes Go.ChangeAt Go.RowKit
theorem Try.own:ownKnob Tryz.prog.godebug=none:=by kernel_rfl
theorem Try.laidOut:laidOutB Tryz.prog=true:=by kernel_rfl
set_option maxRecDepth 100000 in
theorem law_lifted (os:Os)(started:os.Started)(H:Type)(enc:TypeId×Value→H) :
    ReturnsInHanded {} Tryz.checked os 5 .any (Rows.groupNoneSpec.pre6 enc Tryz.prog Tryz.f5 Rows.groupNoneRow.domain false) (Rows.groupNoneSpec.post enc Tryz.prog Tryz.f5 false true false false):=by
  refine returnsInHanded_of_change (C:=Tryz.checked) Try.own started (by kernel_rfl) Tryz.func5
    (ChangeSpec.witness6 (enc:=enc) (C:=Tryz.checked) false ⟨#[],#[.int .i64 0,.agg #[.int .i64 0,.int .i64 0,.int .i64 0,.int .i64 0,.int .i64 0,.slice none 0 0,.slice none 0 0]],[]⟩ 8 (by kernel_rfl) (by kernel_rfl) (by kernel_rfl) (by kernel_rfl)) ?_
  intro W base args ds gs before hval hW _ _
  have hA:=hW
  obtain ⟨p,q,hA,_⟩:=hA
  have hp:Tryz.f5.params.toList=[3,43]:=by rw [Tryz.params5]
  obtain ⟨i,c,cs,hvs,hc⟩:=args_in (vs:=args.toList) (fun j t v hj hv=>hval j t v (by rw [← hp] at hj;simpa using hj) (by simpa using hv)) (by rw [← hp];exact hA)
  have ha:args=⟨[.int .i64 i,.agg ⟨cs⟩]⟩:=by rw [← hvs]
  subst ha
  have hc:=none_calls i hc
  refine hc.mono ?_
  rintro e W' ⟨rfl,hb⟩
  exact ⟨_,rfl,law_post Try.laidOut (by rw [hp];decide +kernel) rfl (by kernel_rfl) Tryz.underlying4 (fun ds hd=>by rw [show Tryz.f5.params.size=2 from by rw [← Array.length_toList,hp];rfl] at hd;match ds,hd with | [a,b],_=>rfl) hW hb⟩
theorem cl1:(Rows.groupNoneRow.inPlace == Tryz.pinned.checked.prog.inPlace 5)=true:=by kernel_rfl
theorem cl2:(Rows.groupNoneRow.unfollowed == Tryz.pinned.checked.prog.unfollowed 5)=true:=by kernel_rfl
theorem cl3:(Rows.groupNoneRow.recurses == Tryz.pinned.checked.prog.recurses 5)=true:=by kernel_rfl
theorem cl4:(Rows.groupNoneRow.named == Tryz.pinned.checked.prog.varsNamed 5)=true:=by kernel_rfl
theorem law_closed:joinedFacts Tryz.pinned.checked.prog 5 Tryz.f5 Rows.groupNoneSpec Rows.groupNoneRow=true:=by
  unfold joinedFacts
  rw [cl1,cl2,cl3,cl4]
  kernel_rfl
theorem law_holds:Rows.GroupNoneSaid :=
  OpenClaim.holds_of_wide 5 Tryz.f5 rfl rfl rfl rfl rfl rfl rfl ⟨rfl,rfl,rfl,rfl,rfl⟩ rfl rfl rfl rfl rfl (by kernel_rfl) Tryz.func5 law_closed
    (of_decide_eq_true (by kernel_rfl)) (by unfold Func.isWrapper;first | (rw [if_pos (by decide +kernel)];kernel_rfl) | (rw [if_neg (by decide +kernel)];exact ⟨rfl,rfl⟩))
    (fun os started H enc _=>law_lifted os started H enc)
end Go.Proofs.YtogbdkfbjphkiaaGreat
