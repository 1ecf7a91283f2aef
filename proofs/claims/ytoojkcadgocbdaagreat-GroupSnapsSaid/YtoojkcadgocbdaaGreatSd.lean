/- The law GroupSnaps: its example; numbers taken within bounds. -/
import Derived.Test.YtoojkcadgocbdaaGreatSa
import Derived.Tactics2
import Derived.WalkArith
namespace Go.Proofs.YtoojkcadgocbdaaGreat
open Go Go.Cx Go.RowKit

set_option maxRecDepth 1000000 in
theorem kend4 : isB true (ending Tryz.prog cf0 100000 4 w02 rn4) = true := by kernel_rfl
theorem known_calls (w : World) : Calls Tryz.prog 4 #[] w fun e w' => e = .returned (.bool true) ∧ Below w.heap.size w w' := by
  refine Cx.Ends.calls (fuel := 100000) (l := []) noNum mixed Tryz.func4 body4 (args := []) (args' := []) (show 0 ≤ 256 by decide) .nil (cf := cf0) cf0_ok ?_
  have hk := kend4
  unfold rn4 at hk
  refine Cx.Ends.eval' (N := N4) (xs := X4) noNum mixed n4 cf0_ok (fuel := 100000) (c := c4) rfl (fun y e => ?_) hk
  rw [e] at hk
  cases hk

theorem tmod_pos {x n : Int} (h : 0 < n) (ht : 0 ≤ x.tmod n) : x.tmod n = x % n := by
  have h1 := Int.tmod_add_mul_tdiv x n
  have h2 : x.tmod n < n := Int.tmod_lt_of_pos x h
  have h3 : x % n = (x.tmod n + n * x.tdiv n) % n := by rw [h1]
  rw [Int.add_mul_emod_self_left, Int.emod_eq_of_lt ht h2] at h3
  exact h3.symm
theorem tmod_neg {x n : Int} (h : 0 < n) (ht : x.tmod n < 0) : x.tmod n + n = x % n ∧ 0 ≤ x.tmod n + n ∧ x.tmod n + n < n := by
  have h1 := Int.tmod_add_mul_tdiv x n
  have h2 : -n < x.tmod n := Int.lt_tmod_of_pos x h
  have h3 : x % n = (x.tmod n + n * x.tdiv n) % n := by rw [h1]
  rw [Int.add_mul_emod_self_left] at h3
  have h5 : (x.tmod n + n) % n = x.tmod n + n := Int.emod_eq_of_lt (by omega) (by omega)
  rw [Int.add_emod_right] at h5
  exact ⟨by rw [h3, h5], by omega, by omega⟩

set_option maxHeartbeats 400000 in
theorem within_calls (x n : Int) (hn : 0 < n) (hn2 : n < 9223372036854775808) (w : World) : Calls Tryz.prog 5 #[.int .i64 x, .int .i64 n] w fun e w' => e = .returned (.int .i64 (x % n)) ∧ w' = w := by
  have hn0 : n ≠ 0 := by omega
  go_enter Tryz.func5, Tryz.ntmps5
  go_wp2
  all_goals go_ret
  · rename_i h
    obtain ⟨h1, h2, h3⟩ := tmod_neg hn h
    rw [h1] at h2 h3
    refine ⟨?_, rfl⟩
    rw [h1]
    have : wrap64 (x % n) = x % n := by unfold wrap64; omega
    simp [this]
  · rename_i h
    refine ⟨?_, rfl⟩
    simp [tmod_pos hn h]

abbrev lvS (n away : Int) (m b : Nat) : List Value := [.int .i64 n, .int .i64 away, .int .i64 (.ofNat m), .int .i64 (.ofNat b)]

theorem orcB_ok {n away : Int} {m b : Nat} {wB : World} (hn : 30 + n % 40 = m) (hb : 1 + away % 2 = b) : OrcOk Tryz.prog (symG (lvS n away m b)) wB (orcB m b) := by
  intro f args args' u h g w hg _ ha
  unfold orcB at h
  cases h7 : Nat.beq f 5 with
  | true =>
    have := Nat.eq_of_beq_eq_true h7
    subst this
    rw [h7] at h
    dsimp only at h
    split at h
    · cases h
      cases ha with
      | cons h1 ha =>
        cases ha with
        | cons h2 ha =>
          cases ha
          have e1 := sym_inv (l := lvS n away m b) (k := 0) hg rfl h1
          have e2 := h2.int
          subst e1; subst e2
          refine (within_calls n 40 (by omega) (by omega) w).mono ?_
          rintro e w' ⟨rfl, rfl⟩
          refine ⟨Below.refl _ _, _, rfl, ?_⟩
          have e3 : n % 40 = ((m - 30 : Nat) : Int) := by omega
          rw [e3]
          exact RV.self rfl
    · cases h
      cases ha with
      | cons h1 ha =>
        cases ha with
        | cons h2 ha =>
          cases ha
          have e1 := sym_inv (l := lvS n away m b) (k := 1) hg rfl h1
          have e2 := h2.int
          subst e1; subst e2
          refine (within_calls away 2 (by omega) (by omega) w).mono ?_
          rintro e w' ⟨rfl, rfl⟩
          refine ⟨Below.refl _ _, _, rfl, ?_⟩
          have e3 : away % 2 = ((b - 1 : Nat) : Int) := by omega
          rw [e3]
          exact RV.self rfl
    · cases h
  | false =>
    rw [h7] at h
    cases h5 : Nat.beq f 4 with
    | false => rw [h5] at h; cases h
    | true =>
      rw [h5] at h
      have := Nat.eq_of_beq_eq_true h5
      subst this
      cases args with
      | cons _ _ => cases h
      | nil =>
        cases h
        cases ha
        refine (known_calls w).mono ?_
        rintro e w' ⟨rfl, hb⟩
        exact ⟨hb, _, rfl, RV.self rfl⟩

end Go.Proofs.YtoojkcadgocbdaaGreat
