/- The law GroupNet: for every input the call returns true, and each argument reads behind it as before. -/
import Derived.Test.YteglbeihabjdiaaGreatRows
import Derived.Test.YteglbeihabjdiaaGreatZ
import Derived.ChangeSlices
namespace Go.Proofs.YteglbeihabjdiaaGreat
open Go Go.Cx Go.ChangeShapes Go.WideShapes Go.ChangeAt Go.RowKit

theorem Try.own : ownKnob Tryz.prog.godebug = none := by kernel_rfl
theorem Try.laidOut : laidOutB Tryz.prog = true := by kernel_rfl
theorem cells3 : Tryz.prog.cellsOf 3 = 1 := by kernel_rfl

set_option maxRecDepth 100000 in
theorem law_lifted (os : Os) (started : os.Started) (H : Type) (enc : TypeId × Value → H) :
    ReturnsInHanded {} Tryz.checked os 3 .any (Rows.groupNetSpec.pre6 enc Tryz.prog Tryz.f3 Rows.groupNetRow.domain false) (Rows.groupNetSpec.post enc Tryz.prog Tryz.f3 false true false false) := by
  refine returnsInHanded_of_change (C := Tryz.checked) Try.own started (by kernel_rfl) Tryz.func3
    (ChangeSpec.witness6 (enc := enc) (C := Tryz.checked) false ⟨#[], #[.slice none 0 0, .slice none 0 0], []⟩ 8 (by kernel_rfl) (by kernel_rfl) (by kernel_rfl) (by kernel_rfl)) ?_
  intro W base args ds gs before hval hW _ _
  have hA := hW
  obtain ⟨p, q, hA, _⟩ := hA
  have hp : Tryz.f3.params.toList = [22, 22] := by rw [Tryz.params3]
  have hv : ∀ (j : Nat) t v, ([22, 22] : List TypeId)[j]? = some t → args[j]? = some v → Value.okWide Tryz.prog W .any base t v := fun j t v hj hv => hval j t v (by rw [← hp] at hj; simpa using hj) hv
  rw [hp] at hA
  obtain ⟨v1, v2, d1, d2, q1, q2, rfl, rfl, rfl, h1, h2⟩ := trodAll_two hA
  obtain ⟨f1, t1⟩ := h1
  obtain ⟨f2, t2⟩ := h2
  obtain ⟨a1, n1, c1, rfl⟩ := okWide_slice Tryz.underlying22 (hv 0 22 v1 rfl rfl)
  obtain ⟨a2, n2, c2, rfl⟩ := okWide_slice Tryz.underlying22 (hv 1 22 v2 rfl rfl)
  have hc1 : ∀ i, i < n1 → ∃ ad z, a1 = some ad ∧ W.cell? (ad.add i) = some (.int .i64 z) := by
    rcases open_ints Tryz.underlying22 Tryz.underlying3 cells3 t1 with ⟨hcs, _⟩ | ⟨a, len, cap, zs, hcs, _, hl, _, hz, _, hc, _⟩
    · simp [Value.cells] at hcs
      obtain ⟨_, rfl, _⟩ := hcs
      exact fun i h => absurd h (by omega)
    · simp [Value.cells] at hcs
      obtain ⟨rfl, rfl, rfl⟩ := hcs
      refine fun i h => ⟨a, _, rfl, hc i ?_⟩
      have hz : zs.length = c1 := by simpa using hz
      omega
  have hc2 : ∀ i, i < n2 → ∃ ad z, a2 = some ad ∧ W.cell? (ad.add i) = some (.int .i64 z) := by
    rcases open_ints Tryz.underlying22 Tryz.underlying3 cells3 t2 with ⟨hcs, _⟩ | ⟨a, len, cap, zs, hcs, _, hl, _, hz, _, hc, _⟩
    · simp [Value.cells] at hcs
      obtain ⟨_, rfl, _⟩ := hcs
      exact fun i h => absurd h (by omega)
    · simp [Value.cells] at hcs
      obtain ⟨rfl, rfl, rfl⟩ := hcs
      refine fun i h => ⟨a, _, rfl, hc i ?_⟩
      have hz : zs.length = c2 := by simpa using hz
      omega
  refine (law_calls a1 a2 n1 n2 c1 c2 W hc1 hc2).mono ?_
  rintro e W' ⟨rfl, hb⟩
  exact ⟨_, rfl, law_post Try.laidOut (by rw [hp]; decide +kernel) rfl (by kernel_rfl) Tryz.underlying4 (fun ds hd => by rw [show Tryz.f3.params.size = 2 from by rw [← Array.length_toList, hp]; rfl] at hd; match ds, hd with | [a, b], _ => rfl) hW hb⟩

theorem cl1 : (Rows.groupNetRow.inPlace == Tryz.pinned.checked.prog.inPlace 3) = true := by kernel_rfl
theorem cl2 : (Rows.groupNetRow.unfollowed == Tryz.pinned.checked.prog.unfollowed 3) = true := by kernel_rfl
theorem cl3 : (Rows.groupNetRow.recurses == Tryz.pinned.checked.prog.recurses 3) = true := by kernel_rfl
theorem cl4 : (Rows.groupNetRow.named == Tryz.pinned.checked.prog.varsNamed 3) = true := by kernel_rfl
theorem law_closed : joinedFacts Tryz.pinned.checked.prog 3 Tryz.f3 Rows.groupNetSpec Rows.groupNetRow = true := by
  unfold joinedFacts
  rw [cl1, cl2, cl3, cl4]
  kernel_rfl

theorem law_holds : Rows.GroupNetSaid :=
  OpenClaim.holds_of_wide 3 Tryz.f3 rfl rfl rfl rfl rfl rfl rfl ⟨rfl, rfl, rfl, rfl, rfl⟩ rfl rfl rfl rfl rfl (by kernel_rfl) Tryz.func3 law_closed
    (of_decide_eq_true (by kernel_rfl)) (by unfold Func.isWrapper; first | (rw [if_pos (by decide +kernel)]; kernel_rfl) | (rw [if_neg (by decide +kernel)]; exact ⟨rfl, rfl⟩))
    (fun os started H enc _ => law_lifted os started H enc)

end Go.Proofs.YteglbeihabjdiaaGreat
