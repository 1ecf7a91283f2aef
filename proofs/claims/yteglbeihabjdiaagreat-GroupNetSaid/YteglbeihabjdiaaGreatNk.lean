/- The law GroupNet: its own code, walked; what it calls by what is known of them. -/
import Derived.Test.YteglbeihabjdiaaGreatProg
import Derived.DataElems
import Derived.Lib.SliceRun
import Derived.LoopIn
import Derived.LoopNIn
import Derived.Handy
import Derived.Tactics2
import Derived.WalkArith
import Derived.Below
import Derived.Deep.RegionHeld
import Derived.Great.Walk
import Derived.Lib.AtoiErrMem
import Derived.OwnWalkIn
import Derived.WalkKit
namespace Go.Proofs.YteglbeihabjdiaaGreat
open Go Go.Proofs Go.RowKit Go.Lib

theorem bit_one (w : World) : Calls Tryz.prog 9 #[.bool true] w fun e w' => e = .returned (.int .i64 1) ∧ w' = w := by
  go_enter Tryz.func9, Tryz.ntmps9
  go_wp2
  all_goals (go_ret; exact ⟨rfl, rfl⟩)
theorem bit_no (w : World) : Calls Tryz.prog 9 #[.bool false] w fun e w' => e = .returned (.int .i64 0) ∧ w' = w := by
  go_enter Tryz.func9, Tryz.ntmps9
  go_wp2
  all_goals (go_ret; exact ⟨rfl, rfl⟩)

section
variable {E : Nat → World → Value → World → Prop}

set_option maxHeartbeats 4000000 in
set_option maxRecDepth 100000 in
theorem walk_n (a1 a2 : Option Addr) (n1 n2 c1 c2 : Nat) (w : World)
    (hknown : ∀ w, Calls Tryz.prog 4 #[] w fun e w' => e = .returned (.bool true) ∧ Below w.heap.size w w')
    (hready : ∀ w0 w, Below w0.heap.size w0 w → Calls Tryz.prog 5 #[] w fun e w' => ∃ u, e = .returned u ∧ E 4 w0 u w')
    (hwithin : ∀ (x n : Int) w, 0 < n → n < 9223372036854775808 → Calls Tryz.prog 7 #[.int .i64 x, .int .i64 n] w fun e w' => e = .returned (.int .i64 (x % n)) ∧ w' = w)
    (hund : ∀ (m : Nat) w0 u w, E m w0 u w → m ≤ 34 → Calls Tryz.prog 6 #[u] w fun e w' => e = .returned (.int .i64 (m : Int)) ∧ E m w0 u w')
    (hdropno : ∀ (m : Nat) w0 u w (z : Int), E m w0 u w → m ≤ 34 → -1 ≤ z → z ≤ m + 1 → ¬ (0 ≤ z ∧ z < m) → Calls Tryz.prog 8 #[u, .int .i64 z] w fun e w' => e = .returned (.bool false) ∧ E m w0 u w')
    (htwiceno : ∀ (m : Nat) w0 u w (z : Int), E m w0 u w → m ≤ 34 → -1 ≤ z → z ≤ m + 1 → ¬ (0 ≤ z ∧ z < m) → Calls Tryz.prog 10 #[u, .int .i64 z] w fun e w' => e = .returned (.bool false) ∧ E m w0 u w')
    (hdelno : ∀ (m : Nat) w0 u w (z : Int), E m w0 u w → m ≤ 34 → -1 ≤ z → z ≤ m + 1 → ¬ (0 ≤ z ∧ z < m) → Calls Tryz.prog 11 #[u, .int .i64 z] w fun e w' => e = .returned (.bool false) ∧ E m w0 u w')
    (hdropbig : ∀ (m : Nat) w0 u w, E m w0 u w → m ≤ 34 → Calls Tryz.prog 8 #[u, .int .i64 1099511627776] w fun e w' => e = .returned (.bool false) ∧ E m w0 u w')
    (hdrop : ∀ (m : Nat) w0 u w (k : Nat), E m w0 u w → m < 34 → k < m → Calls Tryz.prog 8 #[u, .int .i64 (k : Int)] w fun e w' => e = .returned (.bool true) ∧ E (m - 1) w0 u w')
    (htwice : ∀ (m : Nat) w0 u w (k : Nat), E m w0 u w → m < 34 → k < m → Calls Tryz.prog 10 #[u, .int .i64 (k : Int)] w fun e w' => e = .returned (.bool true) ∧ E (m + 1) w0 u w')
    (hdel : ∀ (m : Nat) w0 u w (k : Nat), E m w0 u w → m < 34 → k < m → Calls Tryz.prog 11 #[u, .int .i64 (k : Int)] w fun e w' => e = .returned (.bool true) ∧ ∃ m', m' ≤ m ∧ m ≤ m' + 1 ∧ E m' w0 u w')
    (hbel : ∀ (m : Nat) w0 u w, E m w0 u w → Below w0.heap.size w0 w)
    (hc1 : ∀ i, i < n1 → ∃ ad z, a1 = some ad ∧ w.cell? (ad.add i) = some (.int .i64 z))
    (hc2 : ∀ i, i < n2 → ∃ ad z, a2 = some ad ∧ w.cell? (ad.add i) = some (.int .i64 z)) :
    Calls Tryz.prog 3 #[.slice a1 n1 c1, .slice a2 n2 c2] w fun e w' => e = .returned (.bool true) ∧ Below w.heap.size w w' := by
  go_enter Tryz.func3, Tryz.ntmps3
  go_wp2_with (first
    | (go_at_call 4; refine (hknown _).mono ?_; rintro e w' ⟨rfl, hb⟩)
    | (go_at_call 5; refine (hready w _ (by assumption)).mono ?_; rintro e w' ⟨u, rfl, hE⟩))
  clear hknown hready
  go_loopw [6] (fun k wr => ∃ j m : Nat, k = .int .i64 j ∧ j ≤ 30 ∧ m ≤ 4 + j ∧ E m w u wr) (fun k _ => 30 - (RowKit.intOf k).toNat)
  case atStart => exact ⟨0, 4, rfl, by omega, by omega, hE⟩
  case round =>
    clear hE
    obtain ⟨j, m, rfl, hj, hm, hE⟩ := hrel
    by_cases hl : j < n1 ∧ j < n2 ∧ j < 30
    · obtain ⟨hl1, hl2, hl3⟩ := hl
      obtain ⟨ad1, z1, rfl, hz1⟩ := hc1 j hl1
      obtain ⟨ad2, z2, rfl, hz2⟩ := hc2 j hl2
      obtain ⟨kk, hkk, hk1, hk2⟩ : ∃ kk : Int, z2 % ((m : Int) + 3) = kk + 1 ∧ -1 ≤ kk ∧ kk ≤ m + 1 := ⟨z2 % ((m : Int) + 3) - 1, by omega, by
        have := Int.emod_nonneg z2 (show (m : Int) + 3 ≠ 0 by omega)
        omega, by
        have := Int.emod_lt_of_pos z2 (show (0 : Int) < (m : Int) + 3 by omega)
        omega⟩
      have hw2 : ∀ w, Calls Tryz.prog 7 #[.int .i64 z2, .int .i64 ((m : Int) + 3)] w fun e w' => e = .returned (.int .i64 (kk + 1)) ∧ w' = w := fun w => by
        have := hwithin z2 ((m : Int) + 3) w (by omega) (by omega)
        rw [hkk] at this
        exact this
      clear hkk
      have h3 : z1 % 3 = 0 ∨ z1 % 3 = 1 ∨ z1 % 3 = 2 := by omega
      rcases h3 with h3 | h3 | h3
      all_goals
        have hw1 := fun w => hwithin z1 3 w (by omega) (by omega)
        rw [h3] at hw1
        clear h3
        by_cases hin : 0 ≤ kk ∧ kk < m
      all_goals first
        | (have hin : 0 ≤ kk ∧ kk < m := by assumption
           obtain ⟨k, rfl⟩ : ∃ k : Nat, kk = k := ⟨kk.toNat, by omega⟩
           go_wp2_with (first
             | (go_at_call 6; (first | refine (hund _ _ _ _ hE2 (by omega)).mono ?_ | refine (hund _ _ _ _ hE (by omega)).mono ?_); rintro e w' ⟨rfl, hE1⟩; have g1 := ((hbel _ _ _ _ hE1).cell (Lib.lt_of_cell hz1)).trans hz1; have g2 := ((hbel _ _ _ _ hE1).cell (Lib.lt_of_cell hz2)).trans hz2)
             | (go_at_call 7; with_reducible refine (hw2 _).mono ?_; rintro e w' ⟨rfl, rfl⟩)
             | (go_at_call 7; with_reducible refine (hw1 _).mono ?_; rintro e w' ⟨rfl, rfl⟩)
             | (go_at_call 8; refine (hdrop _ _ _ _ _ hE1 (by omega) (by omega)).mono ?_; rintro e w' ⟨rfl, hE2⟩)
             | (go_at_call 10; refine (htwice _ _ _ _ _ hE1 (by omega) (by omega)).mono ?_; rintro e w' ⟨rfl, hE2⟩)
             | (go_at_call 11; refine (hdel _ _ _ _ _ hE1 (by omega) (by omega)).mono ?_; rintro e w' ⟨rfl, m2, hm1, hm2, hE2⟩)
             | (go_at_call 9; refine (bit_one _).mono ?_; rintro e w' ⟨rfl, rfl⟩))
           exact ⟨⟨j + 1, _, by simp, by omega, by omega, hE1⟩, by simp [RowKit.intOf]; omega⟩)
        | (rcases (show kk < 0 ∨ (0 ≤ kk ∧ (m : Int) ≤ kk) by omega) with hneg | ⟨hge1, hge2⟩
           all_goals
             go_wp2_with (first
                 | (go_at_call 6; (first | refine (hund _ _ _ _ hE2 (by omega)).mono ?_ | refine (hund _ _ _ _ hE (by omega)).mono ?_); rintro e w' ⟨rfl, hE1⟩; have g1 := ((hbel _ _ _ _ hE1).cell (Lib.lt_of_cell hz1)).trans hz1; have g2 := ((hbel _ _ _ _ hE1).cell (Lib.lt_of_cell hz2)).trans hz2)
                 | (go_at_call 7; with_reducible refine (hw2 _).mono ?_; rintro e w' ⟨rfl, rfl⟩)
                 | (go_at_call 7; with_reducible refine (hw1 _).mono ?_; rintro e w' ⟨rfl, rfl⟩)
                 | (go_at_call 8; refine (hdropno _ _ _ _ _ hE1 (by omega) (by omega) (by omega) hin).mono ?_; rintro e w' ⟨rfl, hE2⟩)
                 | (go_at_call 10; refine (htwiceno _ _ _ _ _ hE1 (by omega) (by omega) (by omega) hin).mono ?_; rintro e w' ⟨rfl, hE2⟩)
                 | (go_at_call 11; refine (hdelno _ _ _ _ _ hE1 (by omega) (by omega) (by omega) hin).mono ?_; rintro e w' ⟨rfl, hE2⟩)
                 | (go_at_call 9; (try rw [show decide (kk < (m : Int)) = false from decide_eq_false (by omega)]); refine (bit_no _).mono ?_; rintro e w' ⟨rfl, rfl⟩))
             exact ⟨⟨j + 1, _, by simp, by omega, by omega, hE1⟩, by simp [RowKit.intOf]; omega⟩)
    · go_wp2_with (first
        | (go_at_call 11; refine (hdelno _ _ _ _ (-1) hE (by omega) (by omega) (by omega) (by omega)).mono ?_; rintro e w' ⟨rfl, hE3⟩)
        | (go_at_call 8; refine (hdropbig _ _ _ _ hE3 (by omega)).mono ?_; rintro e w' ⟨rfl, hE4⟩))
      all_goals go_ret
      all_goals exact ⟨rfl, hbel _ _ _ _ hE4⟩
end
end Go.Proofs.YteglbeihabjdiaaGreat
