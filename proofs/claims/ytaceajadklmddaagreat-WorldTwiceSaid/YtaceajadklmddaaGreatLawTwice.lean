/- The law WorldTwice: for every input the call returns true, and each argument reads behind it as before. -/
import Derived.Test.YtaceajadklmddaaGreatRows
import Derived.Test.YtaceajadklmddaaGreatZ
import Derived.ChangeSlices
namespace Go.Proofs.YtaceajadklmddaaGreat
open Go Go.Cx Go.ChangeShapes Go.WideShapes Go.ChangeAt Go.RowKit

theorem Try.own : ownKnob Tryz.prog.godebug = none := by kernel_rfl
theorem Try.laidOut : laidOutB Tryz.prog = true := by kernel_rfl
theorem cells3 : Tryz.prog.cellsOf 3 = 1 := by kernel_rfl

set_option maxRecDepth 100000 in
theorem law_lifted (os : Os) (started : os.Started) (H : Type) (enc : TypeId × Value → H) :
    ReturnsInHanded {} Tryz.checked os 3 .any (Rows.worldTwiceSpec.pre6 enc Tryz.prog Tryz.f3 Rows.worldTwiceRow.domain false) (Rows.worldTwiceSpec.post enc Tryz.prog Tryz.f3 false true false false) := by
  refine returnsInHanded_of_change (C := Tryz.checked) Try.own started (by kernel_rfl) Tryz.func3
    (ChangeSpec.witness6 (enc := enc) (C := Tryz.checked) false ⟨#[], #[.int .i64 0, .slice none 0 0, .slice none 0 0], []⟩ 8 (by kernel_rfl) (by kernel_rfl) (by kernel_rfl) (by kernel_rfl)) ?_
  intro W base args ds gs before hval hW _ _
  have hA := hW
  obtain ⟨p, q, hA, _⟩ := hA
  have hp : Tryz.f3.params.toList = [3, 22, 22] := by rw [Tryz.params3]
  have hv : ∀ (j : Nat) t v, ([3, 22, 22] : List TypeId)[j]? = some t → args[j]? = some v → Value.okWide Tryz.prog W .any base t v := fun j t v hj hv => hval j t v (by rw [← hp] at hj; simpa using hj) hv
  rw [hp] at hA
  obtain ⟨v0, v1, v2, d0, d1, d2, q0, q1, q2, rfl, rfl, rfl, h0, h1, h2⟩ := trodAll_three hA
  obtain ⟨x, rfl, _⟩ := open_int Tryz.underlying3 (hv 0 3 v0 rfl rfl) h0
  obtain ⟨f2, t2⟩ := h2
  obtain ⟨a1, n1, c1, rfl⟩ := okWide_slice Tryz.underlying22 (hv 1 22 v1 rfl rfl)
  obtain ⟨a2, n2, c2, rfl⟩ := okWide_slice Tryz.underlying22 (hv 2 22 v2 rfl rfl)
  have hcell : ∀ i, i < n2 → ∃ ad z, a2 = some ad ∧ W.cell? (ad.add i) = some (.int .i64 z) := by
    rcases open_ints Tryz.underlying22 Tryz.underlying3 cells3 t2 with ⟨hcs, _⟩ | ⟨a, len, cap, zs, hcs, _, hl, _, hz, _, hc, _⟩
    · simp [Value.cells] at hcs
      obtain ⟨_, rfl, _⟩ := hcs
      exact fun i h => absurd h (by omega)
    · simp [Value.cells] at hcs
      obtain ⟨rfl, rfl, rfl⟩ := hcs
      refine fun i h => ⟨a, _, rfl, hc i ?_⟩
      have hz : zs.length = c2 := by simpa using hz
      omega
  refine (law_calls x a1 a2 n1 n2 c1 c2 W hcell).mono ?_
  rintro e W' ⟨rfl, hb⟩
  exact ⟨_, rfl, law_post Try.laidOut (by rw [hp]; decide +kernel) rfl (by kernel_rfl) Tryz.underlying4 (fun ds hd => by rw [show Tryz.f3.params.size = 3 from by rw [← Array.length_toList, hp]; rfl] at hd; match ds, hd with | [a, b, c], _ => rfl) hW hb⟩

theorem cl1 : (Rows.worldTwiceRow.inPlace == Tryz.pinned.checked.prog.inPlace 3) = true := by kernel_rfl
theorem cl2 : (Rows.worldTwiceRow.unfollowed == Tryz.pinned.checked.prog.unfollowed 3) = true := by kernel_rfl
theorem cl3 : (Rows.worldTwiceRow.recurses == Tryz.pinned.checked.prog.recurses 3) = true := by kernel_rfl
theorem cl4 : (Rows.worldTwiceRow.named == Tryz.pinned.checked.prog.varsNamed 3) = true := by kernel_rfl
theorem law_closed : joinedFacts Tryz.pinned.checked.prog 3 Tryz.f3 Rows.worldTwiceSpec Rows.worldTwiceRow = true := by
  unfold joinedFacts
  rw [cl1, cl2, cl3, cl4]
  kernel_rfl

theorem law_holds : Rows.WorldTwiceSaid :=
  OpenClaim.holds_of_wide 3 Tryz.f3 rfl rfl rfl rfl rfl rfl rfl ⟨rfl, rfl, rfl, rfl, rfl⟩ rfl rfl rfl rfl rfl (by kernel_rfl) Tryz.func3 law_closed
    (of_decide_eq_true (by kernel_rfl)) (by unfold Func.isWrapper; first | (rw [if_pos (by decide +kernel)]; kernel_rfl) | (rw [if_neg (by decide +kernel)]; exact ⟨rfl, rfl⟩))
    (fun os started H enc _ => law_lifted os started H enc)

end Go.Proofs.YtaceajadklmddaaGreat
