/- The law EdgeMerges: for every input the call returns true, and each argument reads behind it as before. -/
import Derived.Test.YtkglhjcbdomaaaaGreatM0
import Derived.Test.YtkglhjcbdomaaaaGreatM1
import Derived.Test.YtkglhjcbdomaaaaGreatM2
import Derived.Test.YtkglhjcbdomaaaaGreatM3
import Derived.Test.YtkglhjcbdomaaaaGreatM4
import Derived.Test.YtkglhjcbdomaaaaGreatM5
import Derived.Test.YtkglhjcbdomaaaaGreatM6
import Derived.Test.YtkglhjcbdomaaaaGreatM7
import Derived.Test.YtkglhjcbdomaaaaGreatM8
import Derived.Test.YtkglhjcbdomaaaaGreatM9
import Derived.Test.YtkglhjcbdomaaaaGreatM10
import Derived.Test.YtkglhjcbdomaaaaGreatM11
import Derived.Test.YtkglhjcbdomaaaaGreatM12
import Derived.Test.YtkglhjcbdomaaaaGreatM13
import Derived.Test.YtkglhjcbdomaaaaGreatM14
namespace Go.Proofs.YtkglhjcbdomaaaaGreat
open Go Go.Cx Go.ChangeShapes Go.WideShapes Go.ChangeAt Go.RowKit

theorem Try.own : ownKnob Tryz.prog.godebug = none := by kernel_rfl
theorem Try.laidOut : laidOutB Tryz.prog = true := by kernel_rfl

theorem merges_calls (n late : Int) (w : World) : Calls Tryz.prog 3 #[.int .i64 n, .int .i64 late] w fun e w' => e = .returned (.bool true) ∧ Below w.heap.size w w' := by
  obtain ⟨k, hk⟩ : ∃ k : Nat, n % 15 = k := ⟨(n % 15).toNat, by omega⟩
  have hlt : k < 15 := by omega
  match k, hk, hlt with
  | 0, hk, _ => exact mc0 hk
  | 1, hk, _ => exact mc1 hk
  | 2, hk, _ => exact mc2 hk
  | 3, hk, _ => exact mc3 hk
  | 4, hk, _ => exact mc4 hk
  | 5, hk, _ => exact mc5 hk
  | 6, hk, _ => exact mc6 hk
  | 7, hk, _ => exact mc7 hk
  | 8, hk, _ => exact mc8 hk
  | 9, hk, _ => exact mc9 hk
  | 10, hk, _ => exact mc10 hk
  | 11, hk, _ => exact mc11 hk
  | 12, hk, _ => exact mc12 hk
  | 13, hk, _ => exact mc13 hk
  | 14, hk, _ => exact mc14 hk
  | k + 15, _, h => exact absurd h (by omega)

set_option maxRecDepth 100000 in
theorem law_lifted (os : Os) (started : os.Started) (H : Type) (enc : TypeId × Value → H) :
    ReturnsInHanded {} Tryz.checked os 3 .any (Rows.edgeMergesSpec.pre6 enc Tryz.prog Tryz.f3 Rows.edgeMergesRow.domain false) (Rows.edgeMergesSpec.post enc Tryz.prog Tryz.f3 false true false false) := by
  refine returnsInHanded_of_change (C := Tryz.checked) Try.own started (by kernel_rfl) Tryz.func3
    (ChangeSpec.witness6 (enc := enc) (C := Tryz.checked) false ⟨#[], #[.int .i64 0, .int .i64 0], []⟩ 8 (by kernel_rfl) (by kernel_rfl) (by kernel_rfl) (by kernel_rfl)) ?_
  intro W base args ds gs before hval hW _ _
  have hA := hW
  obtain ⟨p, q, hA, _⟩ := hA
  have hp : Tryz.f3.params.toList = [3, 3] := by rw [Tryz.params3]
  have hv : ∀ (j : Nat) t v, [3, 3][j]? = some t → args[j]? = some v → Value.okWide Tryz.prog W .any base t v := fun j t v hj hv => hval j t v (by rw [← hp] at hj; simpa using hj) hv
  rw [hp] at hA
  obtain ⟨v0, v1, d0, d1, p0, p1, rfl, rfl, rfl, h0, h1⟩ := trodAll_two hA
  obtain ⟨x, rfl, _⟩ := open_int Tryz.underlying3 (hv 0 3 v0 rfl rfl) h0
  obtain ⟨y, rfl, _⟩ := open_int Tryz.underlying3 (hv 1 3 v1 rfl rfl) h1
  refine (merges_calls x y W).mono ?_
  rintro e W' ⟨rfl, hb⟩
  exact ⟨_, rfl, law_post Try.laidOut (by rw [hp]; decide +kernel) rfl (by kernel_rfl) Tryz.underlying4 (fun ds hd => by rw [show Tryz.f3.params.size = 2 from by rw [← Array.length_toList, hp]; rfl] at hd; match ds, hd with | [a, b], _ => rfl) hW hb⟩

theorem cl1 : (Rows.edgeMergesRow.inPlace == Tryz.pinned.checked.prog.inPlace 3) = true := by kernel_rfl
theorem cl2 : (Rows.edgeMergesRow.unfollowed == Tryz.pinned.checked.prog.unfollowed 3) = true := by kernel_rfl
theorem cl3 : (Rows.edgeMergesRow.recurses == Tryz.pinned.checked.prog.recurses 3) = true := by kernel_rfl
theorem cl4 : (Rows.edgeMergesRow.named == Tryz.pinned.checked.prog.varsNamed 3) = true := by kernel_rfl
theorem law_closed : joinedFacts Tryz.pinned.checked.prog 3 Tryz.f3 Rows.edgeMergesSpec Rows.edgeMergesRow = true := by
  unfold joinedFacts
  rw [cl1, cl2, cl3, cl4]
  kernel_rfl

theorem law_holds : Rows.EdgeMergesSaid :=
  OpenClaim.holds_of_wide 3 Tryz.f3 rfl rfl rfl rfl rfl rfl rfl ⟨rfl, rfl, rfl, rfl, rfl⟩ rfl rfl rfl rfl rfl (by kernel_rfl) Tryz.func3 law_closed
    (of_decide_eq_true (by kernel_rfl)) (by unfold Func.isWrapper; first | (rw [if_pos (by decide +kernel)]; kernel_rfl) | (rw [if_neg (by decide +kernel)]; exact ⟨rfl, rfl⟩))
    (fun os started H enc _ => law_lifted os started H enc)

end Go.Proofs.YtkglhjcbdomaaaaGreat
