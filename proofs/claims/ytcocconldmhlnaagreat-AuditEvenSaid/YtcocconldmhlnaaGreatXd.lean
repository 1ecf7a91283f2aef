/- The law AuditEven: its example; numbers taken within bounds. -/
import Derived.Test.YtcocconldmhlnaaGreatXa
import Derived.Tactics2
import Derived.WalkArith
namespace Go.Proofs.YtcocconldmhlnaaGreat
open Go Go.Cx Go.RowKit

set_option maxRecDepth 1000000 in
theorem kend17 : isB true (ending Tryz.prog cf0 100000 17 w02 rn17) = true := by kernel_rfl
theorem known_calls (w : World) : Calls Tryz.prog 17 #[] w fun e w' => e = .returned (.bool true) ∧ Below w.heap.size w w' := by
  refine Cx.Ends.calls (fuel := 100000) (l := []) noNum mixed Tryz.func17 body17 (args := []) (args' := []) (show 0 ≤ 256 by decide) .nil (cf := cf0) cf0_ok ?_
  have hk := kend17
  unfold rn17 at hk
  refine Cx.Ends.eval' (N := N17) (xs := X17) noNum mixed n17 cf0_ok (fuel := 100000) (c := c17) rfl (fun y e => ?_) hk
  rw [e] at hk
  cases hk

theorem tmod_pos {x n : Int} (h : 0 < n) (ht : 0 ≤ x.tmod n) : x.tmod n = x % n := by
  have h1 := Int.tmod_add_mul_tdiv x n
  have h2 : x.tmod n < n := Int.tmod_lt_of_pos x h
  have h3 : x % n = (x.tmod n + n * x.tdiv n) % n := by rw [h1]
  rw [Int.add_mul_emod_self_left, Int.emod_eq_of_lt ht h2] at h3
  exact h3.symm
theorem tmod_neg {x n : Int} (h : 0 < n) (ht : x.tmod n < 0) : x.tmod n + n = x % n ∧ 0 ≤ x.tmod n + n ∧ x.tmod n + n < n := by
  have h1 := Int.tmod_add_mul_tdiv x n
  have h2 : -n < x.tmod n := Int.lt_tmod_of_pos x h
  have h3 : x % n = (x.tmod n + n * x.tdiv n) % n := by rw [h1]
  rw [Int.add_mul_emod_self_left] at h3
  have h5 : (x.tmod n + n) % n = x.tmod n + n := Int.emod_eq_of_lt (by omega) (by omega)
  rw [Int.add_emod_right] at h5
  exact ⟨by rw [h3, h5], by omega, by omega⟩

set_option maxHeartbeats 400000 in
theorem within_calls (x n : Int) (hn : 0 < n) (hn2 : n < 9223372036854775808) (w : World) : Calls Tryz.prog 19 #[.int .i64 x, .int .i64 n] w fun e w' => e = .returned (.int .i64 (x % n)) ∧ w' = w := by
  have hn0 : n ≠ 0 := by omega
  go_enter Tryz.func19, Tryz.ntmps19
  go_wp2
  all_goals go_ret
  · rename_i h
    obtain ⟨h1, h2, h3⟩ := tmod_neg hn h
    rw [h1] at h2 h3
    refine ⟨?_, rfl⟩
    rw [h1]
    have : wrap64 (x % n) = x % n := by unfold wrap64; omega
    simp [this]
  · rename_i h
    refine ⟨?_, rfl⟩
    simp [tmod_pos hn h]

abbrev lvE (n who : Int) (n0 w0 : Nat) : List Value := [.int .i64 n, .int .i64 who, .int .i64 n0, .int .i64 w0]

theorem orcA_ok {n who : Int} {n0 w0 : Nat} {wB : World} (hn : n % 8 = n0) (hw : who % 3 = w0) : OrcOk Tryz.prog (symG (lvE n who n0 w0)) wB orcA := by
  intro f args args' u h g w hg _ ha
  unfold orcA at h
  cases h7 : Nat.beq f 19 with
  | true =>
    have := Nat.eq_of_beq_eq_true h7
    subst this
    rw [h7] at h
    dsimp only at h
    split at h
    · cases h
      cases ha with
      | cons h1 ha =>
        cases ha with
        | cons h2 ha =>
          cases ha
          have e1 := sym_inv (l := lvE n who n0 w0) (k := 0) hg rfl h1
          have e2 := h2.int
          subst e1; subst e2
          refine (within_calls n 8 (by omega) (by omega) w).mono ?_
          rintro e w' ⟨rfl, rfl⟩
          exact ⟨Below.refl _ _, _, rfl, by rw [hn]; exact (symG_rv (l := lvE n who n0 w0) (k := 2) rfl).mono hg⟩
    · cases h
      cases ha with
      | cons h1 ha =>
        cases ha with
        | cons h2 ha =>
          cases ha
          have e1 := sym_inv (l := lvE n who n0 w0) (k := 1) hg rfl h1
          have e2 := h2.int
          subst e1; subst e2
          refine (within_calls who 3 (by omega) (by omega) w).mono ?_
          rintro e w' ⟨rfl, rfl⟩
          exact ⟨Below.refl _ _, _, rfl, by rw [hw]; exact (symG_rv (l := lvE n who n0 w0) (k := 3) rfl).mono hg⟩
    · cases h
  | false =>
    rw [h7] at h
    cases h5 : Nat.beq f 17 with
    | false => rw [h5] at h; cases h
    | true =>
      rw [h5] at h
      have := Nat.eq_of_beq_eq_true h5
      subst this
      cases args with
      | cons _ _ => cases h
      | nil =>
        cases h
        cases ha
        refine (known_calls w).mono ?_
        rintro e w' ⟨rfl, hb⟩
        exact ⟨hb, _, rfl, RV.self rfl⟩

end Go.Proofs.YtcocconldmhlnaaGreat
