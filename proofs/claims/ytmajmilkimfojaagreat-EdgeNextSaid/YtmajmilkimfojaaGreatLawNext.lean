/- The law EdgeNext: for every input the call returns true, and each argument reads behind it as before. -/
import Derived.Test.YtmajmilkimfojaaGreatEc
import Derived.Test.YtmajmilkimfojaaGreatEd
import Derived.Test.YtmajmilkimfojaaGreatEe
import Derived.Test.YtmajmilkimfojaaGreatEf
import Derived.Test.YtmajmilkimfojaaGreatEg
import Derived.Test.YtmajmilkimfojaaGreatEh
import Derived.Test.YtmajmilkimfojaaGreatEi
import Derived.Test.YtmajmilkimfojaaGreatEj
import Derived.Test.YtmajmilkimfojaaGreatEk
import Derived.Test.YtmajmilkimfojaaGreatEl
import Derived.Test.YtmajmilkimfojaaGreatEm
import Derived.Test.YtmajmilkimfojaaGreatEn
namespace Go.Proofs.YtmajmilkimfojaaGreat
open Go Go.Cx Go.ChangeShapes Go.WideShapes Go.ChangeAt Go.RowKit

theorem Try.own : ownKnob Tryz.prog.godebug = none := by kernel_rfl
theorem Try.laidOut : laidOutB Tryz.prog = true := by kernel_rfl

theorem looks0 : ∀ s0 : Nat, s0 ≤ 0 → ∀ b : Bool, ∃ l, look7 0 l = true ∧ (s0, b) ∈ l
  | 0, _, false => ⟨_, e0_0, by decide⟩
  | 0, _, true => ⟨_, e0_0, by decide⟩
  | k + 1, h, _ => absurd h (by omega)
theorem looks1 : ∀ s0 : Nat, s0 ≤ 1 → ∀ b : Bool, ∃ l, look7 1 l = true ∧ (s0, b) ∈ l
  | 0, _, false => ⟨_, e1_0, by decide⟩
  | 0, _, true => ⟨_, e1_0, by decide⟩
  | 1, _, false => ⟨_, e1_0, by decide⟩
  | 1, _, true => ⟨_, e1_0, by decide⟩
  | k + 2, h, _ => absurd h (by omega)
theorem looks2 : ∀ s0 : Nat, s0 ≤ 2 → ∀ b : Bool, ∃ l, look7 2 l = true ∧ (s0, b) ∈ l
  | 0, _, false => ⟨_, e2_0, by decide⟩
  | 0, _, true => ⟨_, e2_0, by decide⟩
  | 1, _, false => ⟨_, e2_0, by decide⟩
  | 1, _, true => ⟨_, e2_0, by decide⟩
  | 2, _, false => ⟨_, e2_0, by decide⟩
  | 2, _, true => ⟨_, e2_0, by decide⟩
  | k + 3, h, _ => absurd h (by omega)
theorem looks3 : ∀ s0 : Nat, s0 ≤ 3 → ∀ b : Bool, ∃ l, look7 3 l = true ∧ (s0, b) ∈ l
  | 0, _, false => ⟨_, e3_0, by decide⟩
  | 0, _, true => ⟨_, e3_0, by decide⟩
  | 1, _, false => ⟨_, e3_0, by decide⟩
  | 1, _, true => ⟨_, e3_0, by decide⟩
  | 2, _, false => ⟨_, e3_0, by decide⟩
  | 2, _, true => ⟨_, e3_0, by decide⟩
  | 3, _, false => ⟨_, e3_1, by decide⟩
  | 3, _, true => ⟨_, e3_1, by decide⟩
  | k + 4, h, _ => absurd h (by omega)
theorem looks4 : ∀ s0 : Nat, s0 ≤ 4 → ∀ b : Bool, ∃ l, look7 4 l = true ∧ (s0, b) ∈ l
  | 0, _, false => ⟨_, e4_0, by decide⟩
  | 0, _, true => ⟨_, e4_0, by decide⟩
  | 1, _, false => ⟨_, e4_0, by decide⟩
  | 1, _, true => ⟨_, e4_0, by decide⟩
  | 2, _, false => ⟨_, e4_0, by decide⟩
  | 2, _, true => ⟨_, e4_0, by decide⟩
  | 3, _, false => ⟨_, e4_1, by decide⟩
  | 3, _, true => ⟨_, e4_1, by decide⟩
  | 4, _, false => ⟨_, e4_1, by decide⟩
  | 4, _, true => ⟨_, e4_1, by decide⟩
  | k + 5, h, _ => absurd h (by omega)
theorem looks5 : ∀ s0 : Nat, s0 ≤ 5 → ∀ b : Bool, ∃ l, look7 5 l = true ∧ (s0, b) ∈ l
  | 0, _, false => ⟨_, e5_0, by decide⟩
  | 0, _, true => ⟨_, e5_0, by decide⟩
  | 1, _, false => ⟨_, e5_0, by decide⟩
  | 1, _, true => ⟨_, e5_0, by decide⟩
  | 2, _, false => ⟨_, e5_0, by decide⟩
  | 2, _, true => ⟨_, e5_0, by decide⟩
  | 3, _, false => ⟨_, e5_1, by decide⟩
  | 3, _, true => ⟨_, e5_1, by decide⟩
  | 4, _, false => ⟨_, e5_1, by decide⟩
  | 4, _, true => ⟨_, e5_1, by decide⟩
  | 5, _, false => ⟨_, e5_1, by decide⟩
  | 5, _, true => ⟨_, e5_1, by decide⟩
  | k + 6, h, _ => absurd h (by omega)
theorem looks6 : ∀ s0 : Nat, s0 ≤ 6 → ∀ b : Bool, ∃ l, look7 6 l = true ∧ (s0, b) ∈ l
  | 0, _, false => ⟨_, e6_0, by decide⟩
  | 0, _, true => ⟨_, e6_0, by decide⟩
  | 1, _, false => ⟨_, e6_0, by decide⟩
  | 1, _, true => ⟨_, e6_0, by decide⟩
  | 2, _, false => ⟨_, e6_1, by decide⟩
  | 2, _, true => ⟨_, e6_1, by decide⟩
  | 3, _, false => ⟨_, e6_1, by decide⟩
  | 3, _, true => ⟨_, e6_1, by decide⟩
  | 4, _, false => ⟨_, e6_2, by decide⟩
  | 4, _, true => ⟨_, e6_2, by decide⟩
  | 5, _, false => ⟨_, e6_2, by decide⟩
  | 5, _, true => ⟨_, e6_2, by decide⟩
  | 6, _, false => ⟨_, e6_3, by decide⟩
  | 6, _, true => ⟨_, e6_3, by decide⟩
  | k + 7, h, _ => absurd h (by omega)
theorem looks7 : ∀ s0 : Nat, s0 ≤ 7 → ∀ b : Bool, ∃ l, look7 7 l = true ∧ (s0, b) ∈ l
  | 0, _, false => ⟨_, e7_0, by decide⟩
  | 0, _, true => ⟨_, e7_0, by decide⟩
  | 1, _, false => ⟨_, e7_0, by decide⟩
  | 1, _, true => ⟨_, e7_0, by decide⟩
  | 2, _, false => ⟨_, e7_1, by decide⟩
  | 2, _, true => ⟨_, e7_1, by decide⟩
  | 3, _, false => ⟨_, e7_1, by decide⟩
  | 3, _, true => ⟨_, e7_1, by decide⟩
  | 4, _, false => ⟨_, e7_2, by decide⟩
  | 4, _, true => ⟨_, e7_2, by decide⟩
  | 5, _, false => ⟨_, e7_2, by decide⟩
  | 5, _, true => ⟨_, e7_2, by decide⟩
  | 6, _, false => ⟨_, e7_3, by decide⟩
  | 6, _, true => ⟨_, e7_3, by decide⟩
  | 7, _, false => ⟨_, e7_3, by decide⟩
  | 7, _, true => ⟨_, e7_3, by decide⟩
  | k + 8, h, _ => absurd h (by omega)
theorem looks8 : ∀ s0 : Nat, s0 ≤ 8 → ∀ b : Bool, ∃ l, look7 8 l = true ∧ (s0, b) ∈ l
  | 0, _, false => ⟨_, e8_0, by decide⟩
  | 0, _, true => ⟨_, e8_0, by decide⟩
  | 1, _, false => ⟨_, e8_0, by decide⟩
  | 1, _, true => ⟨_, e8_0, by decide⟩
  | 2, _, false => ⟨_, e8_1, by decide⟩
  | 2, _, true => ⟨_, e8_1, by decide⟩
  | 3, _, false => ⟨_, e8_1, by decide⟩
  | 3, _, true => ⟨_, e8_1, by decide⟩
  | 4, _, false => ⟨_, e8_2, by decide⟩
  | 4, _, true => ⟨_, e8_2, by decide⟩
  | 5, _, false => ⟨_, e8_2, by decide⟩
  | 5, _, true => ⟨_, e8_2, by decide⟩
  | 6, _, false => ⟨_, e8_3, by decide⟩
  | 6, _, true => ⟨_, e8_3, by decide⟩
  | 7, _, false => ⟨_, e8_3, by decide⟩
  | 7, _, true => ⟨_, e8_3, by decide⟩
  | 8, _, false => ⟨_, e8_4, by decide⟩
  | 8, _, true => ⟨_, e8_4, by decide⟩
  | k + 9, h, _ => absurd h (by omega)
theorem looks9 : ∀ s0 : Nat, s0 ≤ 9 → ∀ b : Bool, ∃ l, look7 9 l = true ∧ (s0, b) ∈ l
  | 0, _, false => ⟨_, e9_0, by decide⟩
  | 0, _, true => ⟨_, e9_0, by decide⟩
  | 1, _, false => ⟨_, e9_0, by decide⟩
  | 1, _, true => ⟨_, e9_0, by decide⟩
  | 2, _, false => ⟨_, e9_1, by decide⟩
  | 2, _, true => ⟨_, e9_1, by decide⟩
  | 3, _, false => ⟨_, e9_1, by decide⟩
  | 3, _, true => ⟨_, e9_1, by decide⟩
  | 4, _, false => ⟨_, e9_2, by decide⟩
  | 4, _, true => ⟨_, e9_2, by decide⟩
  | 5, _, false => ⟨_, e9_2, by decide⟩
  | 5, _, true => ⟨_, e9_2, by decide⟩
  | 6, _, false => ⟨_, e9_3, by decide⟩
  | 6, _, true => ⟨_, e9_3, by decide⟩
  | 7, _, false => ⟨_, e9_3, by decide⟩
  | 7, _, true => ⟨_, e9_3, by decide⟩
  | 8, _, false => ⟨_, e9_4, by decide⟩
  | 8, _, true => ⟨_, e9_4, by decide⟩
  | 9, _, false => ⟨_, e9_4, by decide⟩
  | 9, _, true => ⟨_, e9_4, by decide⟩
  | k + 10, h, _ => absurd h (by omega)
theorem looks10 : ∀ s0 : Nat, s0 ≤ 10 → ∀ b : Bool, ∃ l, look7 10 l = true ∧ (s0, b) ∈ l
  | 0, _, false => ⟨_, e10_0, by decide⟩
  | 0, _, true => ⟨_, e10_0, by decide⟩
  | 1, _, false => ⟨_, e10_0, by decide⟩
  | 1, _, true => ⟨_, e10_0, by decide⟩
  | 2, _, false => ⟨_, e10_1, by decide⟩
  | 2, _, true => ⟨_, e10_1, by decide⟩
  | 3, _, false => ⟨_, e10_1, by decide⟩
  | 3, _, true => ⟨_, e10_1, by decide⟩
  | 4, _, false => ⟨_, e10_2, by decide⟩
  | 4, _, true => ⟨_, e10_2, by decide⟩
  | 5, _, false => ⟨_, e10_2, by decide⟩
  | 5, _, true => ⟨_, e10_2, by decide⟩
  | 6, _, false => ⟨_, e10_3, by decide⟩
  | 6, _, true => ⟨_, e10_3, by decide⟩
  | 7, _, false => ⟨_, e10_3, by decide⟩
  | 7, _, true => ⟨_, e10_3, by decide⟩
  | 8, _, false => ⟨_, e10_4, by decide⟩
  | 8, _, true => ⟨_, e10_4, by decide⟩
  | 9, _, false => ⟨_, e10_4, by decide⟩
  | 9, _, true => ⟨_, e10_4, by decide⟩
  | 10, _, false => ⟨_, e10_5, by decide⟩
  | 10, _, true => ⟨_, e10_5, by decide⟩
  | k + 11, h, _ => absurd h (by omega)
theorem looks11 : ∀ s0 : Nat, s0 ≤ 11 → ∀ b : Bool, ∃ l, look7 11 l = true ∧ (s0, b) ∈ l
  | 0, _, false => ⟨_, e11_0, by decide⟩
  | 0, _, true => ⟨_, e11_0, by decide⟩
  | 1, _, false => ⟨_, e11_0, by decide⟩
  | 1, _, true => ⟨_, e11_0, by decide⟩
  | 2, _, false => ⟨_, e11_1, by decide⟩
  | 2, _, true => ⟨_, e11_1, by decide⟩
  | 3, _, false => ⟨_, e11_1, by decide⟩
  | 3, _, true => ⟨_, e11_1, by decide⟩
  | 4, _, false => ⟨_, e11_2, by decide⟩
  | 4, _, true => ⟨_, e11_2, by decide⟩
  | 5, _, false => ⟨_, e11_2, by decide⟩
  | 5, _, true => ⟨_, e11_2, by decide⟩
  | 6, _, false => ⟨_, e11_3, by decide⟩
  | 6, _, true => ⟨_, e11_3, by decide⟩
  | 7, _, false => ⟨_, e11_3, by decide⟩
  | 7, _, true => ⟨_, e11_3, by decide⟩
  | 8, _, false => ⟨_, e11_4, by decide⟩
  | 8, _, true => ⟨_, e11_4, by decide⟩
  | 9, _, false => ⟨_, e11_4, by decide⟩
  | 9, _, true => ⟨_, e11_4, by decide⟩
  | 10, _, false => ⟨_, e11_5, by decide⟩
  | 10, _, true => ⟨_, e11_5, by decide⟩
  | 11, _, false => ⟨_, e11_5, by decide⟩
  | 11, _, true => ⟨_, e11_5, by decide⟩
  | k + 12, h, _ => absurd h (by omega)
theorem all_looks : ∀ n0 : Nat, n0 < 12 → ∀ s0 : Nat, s0 ≤ n0 → ∀ b : Bool, ∃ l, look7 n0 l = true ∧ (s0, b) ∈ l
  | 0, _ => looks0
  | 1, _ => looks1
  | 2, _ => looks2
  | 3, _ => looks3
  | 4, _ => looks4
  | 5, _ => looks5
  | 6, _ => looks6
  | 7, _ => looks7
  | 8, _ => looks8
  | 9, _ => looks9
  | 10, _ => looks10
  | 11, _ => looks11
  | k + 12, h => absurd h (by omega)

theorem next_calls (n s : Int) (b : Bool) (w : World) : Calls Tryz.prog 7 #[.int .i64 n, .int .i64 s, .bool b] w fun e w' => e = .returned (.bool true) ∧ Below w.heap.size w w' := by
  obtain ⟨n0, hn0⟩ : ∃ n0 : Nat, n % 12 = n0 := ⟨(n % 12).toNat, by omega⟩
  have hlt : n0 < 12 := by omega
  obtain ⟨s0, hs0⟩ : ∃ s0 : Nat, s % ((Nat.succ n0 : Nat) : Int) = s0 := ⟨(s % ((Nat.succ n0 : Nat) : Int)).toNat, by
    have := Int.emod_nonneg s (show ((Nat.succ n0 : Nat) : Int) ≠ 0 by omega)
    omega⟩
  have hs : s0 ≤ n0 := by
    have := Int.emod_lt_of_pos s (show 0 < ((Nat.succ n0 : Nat) : Int) by omega)
    omega
  have h := all_looks n0 hlt s0 hs b
  obtain ⟨l, h1, h2⟩ := h
  exact look_calls hlt hn0 hs0 h1 h2 w

set_option maxRecDepth 100000 in
theorem law_lifted (os : Os) (started : os.Started) (H : Type) (enc : TypeId × Value → H) :
    ReturnsInHanded {} Tryz.checked os 7 .any (Rows.edgeNextSpec.pre6 enc Tryz.prog Tryz.f7 Rows.edgeNextRow.domain false) (Rows.edgeNextSpec.post enc Tryz.prog Tryz.f7 false true false false) := by
  refine returnsInHanded_of_change (C := Tryz.checked) Try.own started (by kernel_rfl) Tryz.func7
    (ChangeSpec.witness6 (enc := enc) (C := Tryz.checked) false ⟨#[], #[.int .i64 0, .int .i64 0, .bool false], []⟩ 8 (by kernel_rfl) (by kernel_rfl) (by kernel_rfl) (by kernel_rfl)) ?_
  intro W base args ds gs before hval hW _ _
  have hA := hW
  obtain ⟨p, q, hA, _⟩ := hA
  have hp : Tryz.f7.params.toList = [3, 3, 4] := by rw [Tryz.params7]
  have hv : ∀ (j : Nat) t v, [3, 3, 4][j]? = some t → args[j]? = some v → Value.okWide Tryz.prog W .any base t v := fun j t v hj hv => hval j t v (by rw [← hp] at hj; simpa using hj) hv
  rw [hp] at hA
  obtain ⟨v0, v1, v2, d0, d1, d2, p0, p1, p2, rfl, rfl, rfl, h0, h1, h2⟩ := trodAll_three hA
  obtain ⟨x, rfl, _⟩ := open_int Tryz.underlying3 (hv 0 3 v0 rfl rfl) h0
  obtain ⟨y, rfl, _⟩ := open_int Tryz.underlying3 (hv 1 3 v1 rfl rfl) h1
  obtain ⟨z, rfl, _⟩ := open_bool Tryz.underlying4 (hv 2 4 v2 rfl rfl) h2
  refine (next_calls x y z W).mono ?_
  rintro e W' ⟨rfl, hb⟩
  exact ⟨_, rfl, law_post Try.laidOut (by rw [hp]; decide +kernel) rfl (by kernel_rfl) Tryz.underlying4 (fun ds hd => by rw [show Tryz.f7.params.size = 3 from by rw [← Array.length_toList, hp]; rfl] at hd; match ds, hd with | [a, b, c], _ => rfl) hW hb⟩

theorem cl1 : (Rows.edgeNextRow.inPlace == Tryz.pinned.checked.prog.inPlace 7) = true := by kernel_rfl
theorem cl2 : (Rows.edgeNextRow.unfollowed == Tryz.pinned.checked.prog.unfollowed 7) = true := by kernel_rfl
theorem cl3 : (Rows.edgeNextRow.recurses == Tryz.pinned.checked.prog.recurses 7) = true := by kernel_rfl
theorem cl4 : (Rows.edgeNextRow.named == Tryz.pinned.checked.prog.varsNamed 7) = true := by kernel_rfl
theorem law_closed : joinedFacts Tryz.pinned.checked.prog 7 Tryz.f7 Rows.edgeNextSpec Rows.edgeNextRow = true := by
  unfold joinedFacts
  rw [cl1, cl2, cl3, cl4]
  kernel_rfl

theorem law_holds : Rows.EdgeNextSaid :=
  OpenClaim.holds_of_wide 7 Tryz.f7 rfl rfl rfl rfl rfl rfl rfl ⟨rfl, rfl, rfl, rfl, rfl⟩ rfl rfl rfl rfl rfl (by kernel_rfl) Tryz.func7 law_closed
    (of_decide_eq_true (by kernel_rfl)) (by unfold Func.isWrapper; first | (rw [if_pos (by decide +kernel)]; kernel_rfl) | (rw [if_neg (by decide +kernel)]; exact ⟨rfl, rfl⟩))
    (fun os started H enc _ => law_lifted os started H enc)

end Go.Proofs.YtmajmilkimfojaaGreat
