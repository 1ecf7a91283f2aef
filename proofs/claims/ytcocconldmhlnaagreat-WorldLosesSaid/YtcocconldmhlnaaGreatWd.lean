/- Worlds: numbers taken within bounds. -/
import Derived.Test.YtcocconldmhlnaaGreatWk
import Derived.Test.YtcocconldmhlnaaGreatWc
import Derived.Tactics2
import Derived.WalkArith
namespace Go.Proofs.YtcocconldmhlnaaGreat
open Go Go.Cx Go.RowKit

theorem tmod_pos {x n : Int} (h : 0 < n) (ht : 0 ≤ x.tmod n) : x.tmod n = x % n := by
  have h1 := Int.tmod_add_mul_tdiv x n
  have h2 : x.tmod n < n := Int.tmod_lt_of_pos x h
  have h3 : x % n = (x.tmod n + n * x.tdiv n) % n := by rw [h1]
  rw [Int.add_mul_emod_self_left, Int.emod_eq_of_lt ht h2] at h3
  exact h3.symm
theorem tmod_neg {x n : Int} (h : 0 < n) (ht : x.tmod n < 0) : x.tmod n + n = x % n ∧ 0 ≤ x.tmod n + n ∧ x.tmod n + n < n := by
  have h1 := Int.tmod_add_mul_tdiv x n
  have h2 : -n < x.tmod n := Int.lt_tmod_of_pos x h
  have h3 : x % n = (x.tmod n + n * x.tdiv n) % n := by rw [h1]
  rw [Int.add_mul_emod_self_left] at h3
  have h5 : (x.tmod n + n) % n = x.tmod n + n := Int.emod_eq_of_lt (by omega) (by omega)
  rw [Int.add_emod_right] at h5
  exact ⟨by rw [h3, h5], by omega, by omega⟩

set_option maxHeartbeats 400000 in
theorem within_calls (x n : Int) (hn : 0 < n) (hn2 : n < 9223372036854775808) (w : World) : Calls Tryz.prog 7 #[.int .i64 x, .int .i64 n] w fun e w' => e = .returned (.int .i64 (x % n)) ∧ w' = w := by
  have hn0 : n ≠ 0 := by omega
  go_enter Tryz.func7, Tryz.ntmps7
  go_wp2
  all_goals go_ret
  · rename_i h
    obtain ⟨h1, h2, h3⟩ := tmod_neg hn h
    rw [h1] at h2 h3
    refine ⟨?_, rfl⟩
    rw [h1]
    have : wrap64 (x % n) = x % n := by unfold wrap64; omega
    simp [this]
  · rename_i h
    refine ⟨?_, rfl⟩
    simp [tmod_pos hn h]

theorem orc_ok {l : List Value} {wB : World} {k m : Nat} {v : Value} {x : Int} (hx : l[k]? = some (.int .i64 x)) (hm : 0 < m) (hm2 : m < 1000000) (hv : ∀ g, GLe (symG l) g → RV g v (.int .i64 (x % m))) : OrcOk Tryz.prog (symG l) wB (orc k m v) := by
  intro f args args' u h g w hg _ ha
  unfold orc at h
  cases h7 : Nat.beq f 7 with
  | true =>
    have := Nat.eq_of_beq_eq_true h7
    subst this
    rw [h7] at h
    dsimp only at h
    split at h
    · rename_i i n
      cases hi : Nat.beq i k with
      | false => rw [hi] at h; cases h
      | true =>
        cases hn : Nat.beq n m with
        | false => rw [hi, hn] at h; cases h
        | true =>
          rw [hi, hn] at h
          cases h
          have := Nat.eq_of_beq_eq_true hi
          subst this
          have := Nat.eq_of_beq_eq_true hn
          subst this
          cases ha with
          | cons h1 ha =>
            cases ha with
            | cons h2 ha =>
              cases ha
              have e1 := sym_inv hg hx h1
              have e2 := h2.int
              subst e1; subst e2
              refine (within_calls x n (by omega) (by omega) w).mono ?_
              rintro e w' ⟨rfl, rfl⟩
              exact ⟨Below.refl _ _, _, rfl, hv g hg⟩
    · cases h
  | false =>
    rw [h7] at h
    cases h5 : Nat.beq f 5 with
    | false => rw [h5] at h; cases h
    | true =>
      rw [h5] at h
      have := Nat.eq_of_beq_eq_true h5
      subst this
      cases args with
      | cons _ _ => cases h
      | nil =>
        cases h
        cases ha
        refine (known_calls w).mono ?_
        rintro e w' ⟨rfl, hb⟩
        exact ⟨hb, _, rfl, RV.self rfl⟩

end Go.Proofs.YtcocconldmhlnaaGreat
