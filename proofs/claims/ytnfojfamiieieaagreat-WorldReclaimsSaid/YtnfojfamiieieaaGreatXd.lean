/- The law WorldReclaims: numbers taken within bounds; what symbols stand for. -/
import Derived.Test.YtnfojfamiieieaaGreatXk
import Derived.Tactics2
import Derived.WalkArith
namespace Go.Proofs.YtnfojfamiieieaaGreat
open Go Go.Cx Go.RowKit

theorem tmod_pos {x n : Int} (h : 0 < n) (ht : 0 ≤ x.tmod n) : x.tmod n = x % n := by
  have h1 := Int.tmod_add_mul_tdiv x n
  have h2 : x.tmod n < n := Int.tmod_lt_of_pos x h
  have h3 : x % n = (x.tmod n + n * x.tdiv n) % n := by rw [h1]
  rw [Int.add_mul_emod_self_left, Int.emod_eq_of_lt ht h2] at h3
  exact h3.symm
theorem tmod_neg {x n : Int} (h : 0 < n) (ht : x.tmod n < 0) : x.tmod n + n = x % n ∧ 0 ≤ x.tmod n + n ∧ x.tmod n + n < n := by
  have h1 := Int.tmod_add_mul_tdiv x n
  have h2 : -n < x.tmod n := Int.lt_tmod_of_pos x h
  have h3 : x % n = (x.tmod n + n * x.tdiv n) % n := by rw [h1]
  rw [Int.add_mul_emod_self_left] at h3
  have h5 : (x.tmod n + n) % n = x.tmod n + n := Int.emod_eq_of_lt (by omega) (by omega)
  rw [Int.add_emod_right] at h5
  exact ⟨by rw [h3, h5], by omega, by omega⟩

set_option maxHeartbeats 400000 in
theorem within_calls (x n : Int) (hn : 0 < n) (hn2 : n < 9223372036854775808) (w : World) : Calls Tryz.prog 6 #[.int .i64 x, .int .i64 n] w fun e w' => e = .returned (.int .i64 (x % n)) ∧ w' = w := by
  have hn0 : n ≠ 0 := by omega
  go_enter Tryz.func6, Tryz.ntmps6
  go_wp2
  all_goals go_ret
  · rename_i h
    obtain ⟨h1, h2, h3⟩ := tmod_neg hn h
    rw [h1] at h2 h3
    refine ⟨?_, rfl⟩
    rw [h1]
    have : wrap64 (x % n) = x % n := by unfold wrap64; omega
    simp [this]
  · rename_i h
    refine ⟨?_, rfl⟩
    simp [tmod_pos hn h]

/-- what hangs on the number of ticks: bytes on the disk, a text in the log -/
noncomputable def xts : List (List Value) := [[], [.int .u8 (.ofNat 50), .int .u8 (.ofNat 197), .int .u8 (.ofNat 4), .int .u8 (.ofNat 24), .int .u8 (.ofNat 2), .int .u8 (.ofNat 195), .int .u8 (.ofNat 227), .int .u8 (.ofNat 181), .int .u8 (.ofNat 29), .int .u8 (.ofNat 58), .int .u8 (.ofNat 254), .int .u8 (.ofNat 27), .int .u8 (.ofNat 107), .string ⟨⟨[4, 0, 2, 4, 2, 2, 2, 98, 6, 0, 0, 0]⟩⟩], [.int .u8 (.ofNat 244), .int .u8 (.ofNat 170), .int .u8 (.ofNat 13), .int .u8 (.ofNat 159), .int .u8 (.ofNat 4), .int .u8 (.ofNat 159), .int .u8 (.ofNat 109), .int .u8 (.ofNat 64), .int .u8 (.ofNat 184), .int .u8 (.ofNat 210), .int .u8 (.ofNat 75), .int .u8 (.ofNat 209), .int .u8 (.ofNat 40), .string ⟨⟨[4, 0, 2, 4, 4, 2, 2, 98, 6, 0, 0, 0]⟩⟩], [.int .u8 (.ofNat 182), .int .u8 (.ofNat 143), .int .u8 (.ofNat 10), .int .u8 (.ofNat 226), .int .u8 (.ofNat 6), .int .u8 (.ofNat 11), .int .u8 (.ofNat 234), .int .u8 (.ofNat 218), .int .u8 (.ofNat 36), .int .u8 (.ofNat 138), .int .u8 (.ofNat 39), .int .u8 (.ofNat 104), .int .u8 (.ofNat 233), .string ⟨⟨[4, 0, 2, 4, 6, 2, 2, 98, 6, 0, 0, 0]⟩⟩], [.int .u8 (.ofNat 163), .int .u8 (.ofNat 5), .int .u8 (.ofNat 24), .int .u8 (.ofNat 208), .int .u8 (.ofNat 8), .int .u8 (.ofNat 100), .int .u8 (.ofNat 98), .int .u8 (.ofNat 47), .int .u8 (.ofNat 234), .int .u8 (.ofNat 216), .int .u8 (.ofNat 81), .int .u8 (.ofNat 67), .int .u8 (.ofNat 239), .string ⟨⟨[4, 0, 2, 4, 8, 2, 2, 98, 6, 0, 0, 0]⟩⟩], [.int .u8 (.ofNat 225), .int .u8 (.ofNat 32), .int .u8 (.ofNat 31), .int .u8 (.ofNat 173), .int .u8 (.ofNat 10), .int .u8 (.ofNat 240), .int .u8 (.ofNat 229), .int .u8 (.ofNat 181), .int .u8 (.ofNat 118), .int .u8 (.ofNat 128), .int .u8 (.ofNat 61), .int .u8 (.ofNat 250), .int .u8 (.ofNat 46), .string ⟨⟨[4, 0, 2, 4, 10, 2, 2, 98, 6, 0, 0, 0]⟩⟩], [.int .u8 (.ofNat 39), .int .u8 (.ofNat 79), .int .u8 (.ofNat 22), .int .u8 (.ofNat 42), .int .u8 (.ofNat 12), .int .u8 (.ofNat 172), .int .u8 (.ofNat 107), .int .u8 (.ofNat 64), .int .u8 (.ofNat 211), .int .u8 (.ofNat 104), .int .u8 (.ofNat 136), .int .u8 (.ofNat 48), .int .u8 (.ofNat 109), .string ⟨⟨[4, 0, 2, 4, 12, 2, 2, 98, 6, 0, 0, 0]⟩⟩], [.int .u8 (.ofNat 101), .int .u8 (.ofNat 106), .int .u8 (.ofNat 17), .int .u8 (.ofNat 87), .int .u8 (.ofNat 14), .int .u8 (.ofNat 56), .int .u8 (.ofNat 236), .int .u8 (.ofNat 218), .int .u8 (.ofNat 79), .int .u8 (.ofNat 48), .int .u8 (.ofNat 228), .int .u8 (.ofNat 137), .int .u8 (.ofNat 172), .string ⟨⟨[4, 0, 2, 4, 14, 2, 2, 98, 6, 0, 0, 0]⟩⟩], [.int .u8 (.ofNat 12), .int .u8 (.ofNat 91), .int .u8 (.ofNat 50), .int .u8 (.ofNat 78), .int .u8 (.ofNat 16), .int .u8 (.ofNat 115), .int .u8 (.ofNat 122), .int .u8 (.ofNat 171), .int .u8 (.ofNat 79), .int .u8 (.ofNat 204), .int .u8 (.ofNat 100), .int .u8 (.ofNat 102), .int .u8 (.ofNat 97), .string ⟨⟨[4, 0, 2, 4, 16, 2, 2, 98, 6, 0, 0, 0]⟩⟩], [.int .u8 (.ofNat 78), .int .u8 (.ofNat 126), .int .u8 (.ofNat 53), .int .u8 (.ofNat 51), .int .u8 (.ofNat 18), .int .u8 (.ofNat 231), .int .u8 (.ofNat 253), .int .u8 (.ofNat 49), .int .u8 (.ofNat 211), .int .u8 (.ofNat 148), .int .u8 (.ofNat 8), .int .u8 (.ofNat 223), .int .u8 (.ofNat 160), .string ⟨⟨[4, 0, 2, 4, 18, 2, 2, 98, 6, 0, 0, 0]⟩⟩], [.int .u8 (.ofNat 136), .int .u8 (.ofNat 17), .int .u8 (.ofNat 60), .int .u8 (.ofNat 180), .int .u8 (.ofNat 20), .int .u8 (.ofNat 187), .int .u8 (.ofNat 115), .int .u8 (.ofNat 196), .int .u8 (.ofNat 118), .int .u8 (.ofNat 124), .int .u8 (.ofNat 189), .int .u8 (.ofNat 21), .int .u8 (.ofNat 227), .string ⟨⟨[4, 0, 2, 4, 20, 2, 2, 98, 6, 0, 0, 0]⟩⟩], [.int .u8 (.ofNat 202), .int .u8 (.ofNat 52), .int .u8 (.ofNat 59), .int .u8 (.ofNat 201), .int .u8 (.ofNat 22), .int .u8 (.ofNat 47), .int .u8 (.ofNat 244), .int .u8 (.ofNat 94), .int .u8 (.ofNat 234), .int .u8 (.ofNat 36), .int .u8 (.ofNat 209), .int .u8 (.ofNat 172), .int .u8 (.ofNat 34), .string ⟨⟨[4, 0, 2, 4, 22, 2, 2, 98, 6, 0, 0, 0]⟩⟩], [.int .u8 (.ofNat 223), .int .u8 (.ofNat 190), .int .u8 (.ofNat 41), .int .u8 (.ofNat 251), .int .u8 (.ofNat 24), .int .u8 (.ofNat 64), .int .u8 (.ofNat 124), .int .u8 (.ofNat 171), .int .u8 (.ofNat 36), .int .u8 (.ofNat 118), .int .u8 (.ofNat 167), .int .u8 (.ofNat 135), .int .u8 (.ofNat 36), .string ⟨⟨[4, 0, 2, 4, 24, 2, 2, 98, 6, 0, 0, 0]⟩⟩], [.int .u8 (.ofNat 157), .int .u8 (.ofNat 155), .int .u8 (.ofNat 46), .int .u8 (.ofNat 134), .int .u8 (.ofNat 26), .int .u8 (.ofNat 212), .int .u8 (.ofNat 251), .int .u8 (.ofNat 49), .int .u8 (.ofNat 184), .int .u8 (.ofNat 46), .int .u8 (.ofNat 203), .int .u8 (.ofNat 62), .int .u8 (.ofNat 229), .string ⟨⟨[4, 0, 2, 4, 26, 2, 2, 98, 6, 0, 0, 0]⟩⟩], [.int .u8 (.ofNat 91), .int .u8 (.ofNat 244), .int .u8 (.ofNat 39), .int .u8 (.ofNat 1), .int .u8 (.ofNat 28), .int .u8 (.ofNat 136), .int .u8 (.ofNat 117), .int .u8 (.ofNat 196), .int .u8 (.ofNat 29), .int .u8 (.ofNat 198), .int .u8 (.ofNat 126), .int .u8 (.ofNat 244), .int .u8 (.ofNat 166), .string ⟨⟨[4, 0, 2, 4, 28, 2, 2, 98, 6, 0, 0, 0]⟩⟩], [.int .u8 (.ofNat 25), .int .u8 (.ofNat 209), .int .u8 (.ofNat 32), .int .u8 (.ofNat 124), .int .u8 (.ofNat 30), .int .u8 (.ofNat 28), .int .u8 (.ofNat 242), .int .u8 (.ofNat 94), .int .u8 (.ofNat 129), .int .u8 (.ofNat 158), .int .u8 (.ofNat 18), .int .u8 (.ofNat 77), .int .u8 (.ofNat 103), .string ⟨⟨[4, 0, 2, 4, 30, 2, 2, 98, 6, 0, 0, 0]⟩⟩], [.int .u8 (.ofNat 137), .int .u8 (.ofNat 150), .int .u8 (.ofNat 97), .int .u8 (.ofNat 51), .int .u8 (.ofNat 32), .int .u8 (.ofNat 21), .int .u8 (.ofNat 115), .int .u8 (.ofNat 161), .int .u8 (.ofNat 195), .int .u8 (.ofNat 228), .int .u8 (.ofNat 14), .int .u8 (.ofNat 45), .int .u8 (.ofNat 125), .string ⟨⟨[4, 0, 2, 4, 32, 2, 2, 98, 6, 0, 0, 0]⟩⟩], [.int .u8 (.ofNat 203), .int .u8 (.ofNat 179), .int .u8 (.ofNat 102), .int .u8 (.ofNat 78), .int .u8 (.ofNat 34), .int .u8 (.ofNat 129), .int .u8 (.ofNat 244), .int .u8 (.ofNat 59), .int .u8 (.ofNat 95), .int .u8 (.ofNat 188), .int .u8 (.ofNat 98), .int .u8 (.ofNat 148), .int .u8 (.ofNat 188), .string ⟨⟨[4, 0, 2, 4, 34, 2, 2, 98, 6, 0, 0, 0]⟩⟩], [.int .u8 (.ofNat 13), .int .u8 (.ofNat 220), .int .u8 (.ofNat 111), .int .u8 (.ofNat 201), .int .u8 (.ofNat 36), .int .u8 (.ofNat 221), .int .u8 (.ofNat 122), .int .u8 (.ofNat 206), .int .u8 (.ofNat 250), .int .u8 (.ofNat 84), .int .u8 (.ofNat 215), .int .u8 (.ofNat 94), .int .u8 (.ofNat 255), .string ⟨⟨[4, 0, 2, 4, 36, 2, 2, 98, 6, 0, 0, 0]⟩⟩], [.int .u8 (.ofNat 79), .int .u8 (.ofNat 249), .int .u8 (.ofNat 104), .int .u8 (.ofNat 180), .int .u8 (.ofNat 38), .int .u8 (.ofNat 73), .int .u8 (.ofNat 253), .int .u8 (.ofNat 84), .int .u8 (.ofNat 102), .int .u8 (.ofNat 12), .int .u8 (.ofNat 187), .int .u8 (.ofNat 231), .int .u8 (.ofNat 62), .string ⟨⟨[4, 0, 2, 4, 38, 2, 2, 98, 6, 0, 0, 0]⟩⟩], [.int .u8 (.ofNat 90), .int .u8 (.ofNat 115), .int .u8 (.ofNat 122), .int .u8 (.ofNat 134), .int .u8 (.ofNat 40), .int .u8 (.ofNat 38), .int .u8 (.ofNat 117), .int .u8 (.ofNat 161), .int .u8 (.ofNat 168), .int .u8 (.ofNat 94), .int .u8 (.ofNat 205), .int .u8 (.ofNat 204), .int .u8 (.ofNat 56), .string ⟨⟨[4, 0, 2, 4, 40, 2, 2, 98, 6, 0, 0, 0]⟩⟩], [.int .u8 (.ofNat 24), .int .u8 (.ofNat 86), .int .u8 (.ofNat 125), .int .u8 (.ofNat 251), .int .u8 (.ofNat 42), .int .u8 (.ofNat 178), .int .u8 (.ofNat 242), .int .u8 (.ofNat 59), .int .u8 (.ofNat 52), .int .u8 (.ofNat 6), .int .u8 (.ofNat 161), .int .u8 (.ofNat 117), .int .u8 (.ofNat 249), .string ⟨⟨[4, 0, 2, 4, 42, 2, 2, 98, 6, 0, 0, 0]⟩⟩], [.int .u8 (.ofNat 222), .int .u8 (.ofNat 57), .int .u8 (.ofNat 116), .int .u8 (.ofNat 124), .int .u8 (.ofNat 44), .int .u8 (.ofNat 238), .int .u8 (.ofNat 124), .int .u8 (.ofNat 206), .int .u8 (.ofNat 145), .int .u8 (.ofNat 238), .int .u8 (.ofNat 20), .int .u8 (.ofNat 191), .int .u8 (.ofNat 186), .string ⟨⟨[4, 0, 2, 4, 44, 2, 2, 98, 6, 0, 0, 0]⟩⟩], [.int .u8 (.ofNat 156), .int .u8 (.ofNat 28), .int .u8 (.ofNat 115), .int .u8 (.ofNat 1), .int .u8 (.ofNat 46), .int .u8 (.ofNat 122), .int .u8 (.ofNat 251), .int .u8 (.ofNat 84), .int .u8 (.ofNat 13), .int .u8 (.ofNat 182), .int .u8 (.ofNat 120), .int .u8 (.ofNat 6), .int .u8 (.ofNat 123), .string ⟨⟨[4, 0, 2, 4, 46, 2, 2, 98, 6, 0, 0, 0]⟩⟩], [.int .u8 (.ofNat 245), .int .u8 (.ofNat 45), .int .u8 (.ofNat 80), .int .u8 (.ofNat 24), .int .u8 (.ofNat 48), .int .u8 (.ofNat 49), .int .u8 (.ofNat 109), .int .u8 (.ofNat 37), .int .u8 (.ofNat 13), .int .u8 (.ofNat 74), .int .u8 (.ofNat 248), .int .u8 (.ofNat 233), .int .u8 (.ofNat 182), .string ⟨⟨[4, 0, 2, 4, 48, 2, 2, 98, 6, 0, 0, 0]⟩⟩], [.int .u8 (.ofNat 183), .int .u8 (.ofNat 8), .int .u8 (.ofNat 87), .int .u8 (.ofNat 101), .int .u8 (.ofNat 50), .int .u8 (.ofNat 165), .int .u8 (.ofNat 234), .int .u8 (.ofNat 191), .int .u8 (.ofNat 145), .int .u8 (.ofNat 18), .int .u8 (.ofNat 148), .int .u8 (.ofNat 80), .int .u8 (.ofNat 119), .string ⟨⟨[4, 0, 2, 4, 50, 2, 2, 98, 6, 0, 0, 0]⟩⟩], [.int .u8 (.ofNat 113), .int .u8 (.ofNat 103), .int .u8 (.ofNat 94), .int .u8 (.ofNat 226), .int .u8 (.ofNat 52), .int .u8 (.ofNat 249), .int .u8 (.ofNat 100), .int .u8 (.ofNat 74), .int .u8 (.ofNat 52), .int .u8 (.ofNat 250), .int .u8 (.ofNat 33), .int .u8 (.ofNat 154), .int .u8 (.ofNat 52), .string ⟨⟨[4, 0, 2, 4, 52, 2, 2, 98, 6, 0, 0, 0]⟩⟩], [.int .u8 (.ofNat 51), .int .u8 (.ofNat 66), .int .u8 (.ofNat 89), .int .u8 (.ofNat 159), .int .u8 (.ofNat 54), .int .u8 (.ofNat 109), .int .u8 (.ofNat 227), .int .u8 (.ofNat 208), .int .u8 (.ofNat 168), .int .u8 (.ofNat 162), .int .u8 (.ofNat 77), .int .u8 (.ofNat 35), .int .u8 (.ofNat 245), .string ⟨⟨[4, 0, 2, 4, 54, 2, 2, 98, 6, 0, 0, 0]⟩⟩], [.int .u8 (.ofNat 38), .int .u8 (.ofNat 200), .int .u8 (.ofNat 75), .int .u8 (.ofNat 173), .int .u8 (.ofNat 56), .int .u8 (.ofNat 2), .int .u8 (.ofNat 107), .int .u8 (.ofNat 37), .int .u8 (.ofNat 102), .int .u8 (.ofNat 240), .int .u8 (.ofNat 59), .int .u8 (.ofNat 8), .int .u8 (.ofNat 243), .string ⟨⟨[4, 0, 2, 4, 56, 2, 2, 98, 6, 0, 0, 0]⟩⟩], [.int .u8 (.ofNat 100), .int .u8 (.ofNat 237), .int .u8 (.ofNat 76), .int .u8 (.ofNat 208), .int .u8 (.ofNat 58), .int .u8 (.ofNat 150), .int .u8 (.ofNat 236), .int .u8 (.ofNat 191), .int .u8 (.ofNat 250), .int .u8 (.ofNat 168), .int .u8 (.ofNat 87), .int .u8 (.ofNat 177), .int .u8 (.ofNat 50), .string ⟨⟨[4, 0, 2, 4, 58, 2, 2, 98, 6, 0, 0, 0]⟩⟩], [.int .u8 (.ofNat 162), .int .u8 (.ofNat 130), .int .u8 (.ofNat 69), .int .u8 (.ofNat 87), .int .u8 (.ofNat 60), .int .u8 (.ofNat 202), .int .u8 (.ofNat 98), .int .u8 (.ofNat 74), .int .u8 (.ofNat 95), .int .u8 (.ofNat 64), .int .u8 (.ofNat 226), .int .u8 (.ofNat 123), .int .u8 (.ofNat 113), .string ⟨⟨[4, 0, 2, 4, 60, 2, 2, 98, 6, 0, 0, 0]⟩⟩]]
noncomputable def XT (t : Nat) : List Value := match nth xts t with | some l => l | none => []
noncomputable abbrev lvR (ticks wait : Int) (down : Bool) (t v : Nat) : List Value := .int .i64 ticks :: .int .i64 wait :: .bool down :: .int .i64 (.ofNat t) :: .int .i64 (.ofNat v) :: XT t

theorem orcK_ok {gB : Gh} {wB : World} : OrcOk Tryz.prog gB wB orcK := by
  intro f args args' u h g w hg _ ha
  unfold orcK at h
  cases h5 : Nat.beq f 4 with
  | false => rw [h5] at h; cases h
  | true =>
    rw [h5] at h
    have := Nat.eq_of_beq_eq_true h5
    subst this
    cases args with
    | cons _ _ => cases h
    | nil =>
      cases h
      cases ha
      refine (known_calls w).mono ?_
      rintro e w' ⟨rfl, hb⟩
      exact ⟨hb, _, rfl, RV.self rfl⟩

theorem orcT_ok {ticks wait : Int} {down : Bool} {t v : Nat} {wB : World} (hn : 1 + ticks % 30 = t) (hv : wait % 45 = v) : OrcOk Tryz.prog (symG (lvR ticks wait down t v)) wB (orcT t) := by
  intro f args args' u h g w hg _ ha
  unfold orcT at h
  cases h7 : Nat.beq f 6 with
  | false => rw [h7] at h; cases h
  | true =>
    have := Nat.eq_of_beq_eq_true h7
    subst this
    rw [h7] at h
    dsimp only at h
    split at h
    · cases h
      cases ha with
      | cons h1 ha =>
        cases ha with
        | cons h2 ha =>
          cases ha
          have e1 := sym_inv (l := lvR ticks wait down t v) (k := 0) hg rfl h1
          have e2 := h2.int
          subst e1; subst e2
          refine (within_calls ticks 30 (by omega) (by omega) w).mono ?_
          rintro e w' ⟨rfl, rfl⟩
          refine ⟨Below.refl _ _, _, rfl, ?_⟩
          have e3 : ticks % 30 = ((t - 1 : Nat) : Int) := by omega
          rw [e3]
          exact RV.self rfl
    · cases h
      cases ha with
      | cons h1 ha =>
        cases ha with
        | cons h2 ha =>
          cases ha
          have e1 := sym_inv (l := lvR ticks wait down t v) (k := 1) hg rfl h1
          have e2 := h2.int
          subst e1; subst e2
          refine (within_calls wait 45 (by omega) (by omega) w).mono ?_
          rintro e w' ⟨rfl, rfl⟩
          refine ⟨Below.refl _ _, _, rfl, ?_⟩
          rw [hv]
          exact (symG_rv (l := lvR ticks wait down t v) (k := 4) rfl).mono hg
    · cases h

end Go.Proofs.YtnfojfamiieieaaGreat
