/- The law ReplicaVotes: for every input the call returns true, and each argument reads behind it as before. -/
import Derived.Test.YtoicjnggljeicaaRows
import Derived.Test.YtoicjnggljeicaaV
import Derived.Test.YtoicjnggljeicaaEc
namespace Go.Proofs.Ytoicjnggljeicaa
open Go Go.Ev Go.ChangeShapes Go.WideShapes Go.ChangeAt Go.RowKit

theorem Try.own : ownKnob Try.prog.godebug = none := by kernel_rfl
theorem Try.laidOut : laidOutB Try.prog = true := by kernel_rfl

theorem law_read (w : World) : RdA Try.prog w [22, 3, 3, 4] (DA.cons (DT.one di_lInt) (DA.cons (DT.one (DI.int .i64)) (DA.cons (DT.one (DI.int .i64)) (DA.one (DT.one DI.bool)))) : DA TL ((List Int) × Int × Int × Bool)) := RdA.cons (RdV.one (d := di_lInt) (Rd.slice Try.underlying22 (Rd.int Try.underlying3) TL.lInt (fun _ => rfl) (fun _ => by kernel_rfl) (Nat.lt_of_lt_of_eq (by decide : 0 < 1) (by kernel_rfl))) (.inr (.inr (.inr ⟨_, Try.underlying22⟩)))) (RdA.cons (RdV.one (d := (DI.int .i64)) (Rd.int Try.underlying3) (.inl ⟨_, Try.underlying3⟩)) (RdA.cons (RdV.one (d := (DI.int .i64)) (Rd.int Try.underlying3) (.inl ⟨_, Try.underlying3⟩)) (RdA.one (RdV.one (d := DI.bool) (Rd.bool Try.underlying4) (.inr (.inl Try.underlying4))))))

set_option maxRecDepth 100000 in
theorem law_lifted (os : Os) (started : os.Started) (H : Type) (enc : TypeId × Value → H) :
    ReturnsInHanded {} Try.checked os 3 .any (Rows.replicaVotesSpec.pre6 enc Try.prog Try.f3 Rows.replicaVotesRow.domain false) (Rows.replicaVotesSpec.post enc Try.prog Try.f3 false true false false) := by
  refine returnsInHanded_of_change (C := Try.checked) Try.own started (by kernel_rfl) Try.func3
    (ChangeSpec.witness6 (enc := enc) (C := Try.checked) false ⟨#[], #[.slice none 0 0, .int .i64 0, .int .i64 0, .bool false], []⟩ 8 (by kernel_rfl) (by kernel_rfl) (by kernel_rfl) (by kernel_rfl)) ?_
  intro W base args ds gs before hval hW _ _
  have hA := hW
  obtain ⟨p, q, hA, _⟩ := hA
  have hp : Try.f3.params.toList = [22, 3, 3, 4] := by rw [Try.params3]
  obtain ⟨y, hy⟩ := law_read W H enc base .any args.toList ds p (fun j t v hj hv => hval j t v (by rw [← hp] at hj; simpa using hj) (by simpa using hv)) (by rw [← hp]; exact hA)
  have hc := law_calls (P := Try.prog) (f := 3) _ un_replicaVotes ok_replicaVotes (fun p => votes_true p.1 p.2.1 p.2.2.1 p.2.2.2) (G := wG W) (w := W) y (fun _ _ _ h => h) hy rfl
  simp only [Array.toArray_toList] at hc
  refine hc.mono ?_
  rintro e W' ⟨rfl, hb⟩
  exact ⟨_, rfl, law_post Try.laidOut (by rw [hp]; decide +kernel) rfl (by kernel_rfl) Try.underlying4 (fun ds hd => by rw [show Try.f3.params.size = 4 from by rw [← Array.length_toList, hp]; rfl] at hd; match ds, hd with | [a, b, c, d], _ => rfl) hW hb⟩

theorem law_holds : Rows.ReplicaVotesSaid :=
  OpenClaim.holds_of_wide 3 Try.f3 rfl rfl rfl rfl rfl rfl rfl ⟨rfl, rfl, rfl, rfl, rfl⟩ rfl rfl rfl rfl rfl (by kernel_rfl) Try.func3 (by kernel_rfl)
    (of_decide_eq_true (by kernel_rfl)) (by unfold Func.isWrapper; first | (rw [if_pos (by decide +kernel)]; kernel_rfl) | (rw [if_neg (by decide +kernel)]; exact ⟨rfl, rfl⟩))
    (fun os started H enc _ => law_lifted os started H enc)

end Go.Proofs.Ytoicjnggljeicaa
