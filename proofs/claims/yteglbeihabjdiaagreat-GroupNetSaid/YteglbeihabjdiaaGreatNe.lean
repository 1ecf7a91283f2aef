/- The law GroupNet: what its calls do with a group with so many messages. -/
import Derived.Test.YteglbeihabjdiaaGreatNc0
import Derived.Test.YteglbeihabjdiaaGreatNc1
import Derived.Test.YteglbeihabjdiaaGreatNc2
import Derived.Test.YteglbeihabjdiaaGreatNc3
import Derived.Test.YteglbeihabjdiaaGreatNc4
import Derived.Test.YteglbeihabjdiaaGreatNc5
import Derived.Test.YteglbeihabjdiaaGreatNc6
import Derived.Test.YteglbeihabjdiaaGreatNc7
import Derived.Test.YteglbeihabjdiaaGreatNc8
import Derived.Test.YteglbeihabjdiaaGreatNc9
import Derived.Test.YteglbeihabjdiaaGreatNc10
import Derived.Test.YteglbeihabjdiaaGreatNc11
import Derived.Test.YteglbeihabjdiaaGreatNc12
import Derived.Test.YteglbeihabjdiaaGreatNc13
import Derived.Test.YteglbeihabjdiaaGreatNc14
import Derived.Test.YteglbeihabjdiaaGreatNc15
import Derived.Test.YteglbeihabjdiaaGreatNc16
import Derived.Test.YteglbeihabjdiaaGreatNc17
import Derived.Test.YteglbeihabjdiaaGreatNc18
import Derived.Test.YteglbeihabjdiaaGreatNc19
import Derived.Test.YteglbeihabjdiaaGreatNc20
import Derived.Test.YteglbeihabjdiaaGreatNc21
import Derived.Test.YteglbeihabjdiaaGreatNc22
import Derived.Test.YteglbeihabjdiaaGreatNc23
import Derived.Test.YteglbeihabjdiaaGreatNc24
import Derived.Test.YteglbeihabjdiaaGreatNc25
import Derived.Test.YteglbeihabjdiaaGreatNc26
import Derived.Test.YteglbeihabjdiaaGreatNc27
import Derived.Test.YteglbeihabjdiaaGreatNc28
import Derived.Test.YteglbeihabjdiaaGreatNc29
import Derived.Test.YteglbeihabjdiaaGreatNc30
import Derived.Test.YteglbeihabjdiaaGreatNc31
import Derived.Test.YteglbeihabjdiaaGreatNc32
namespace Go.Proofs.YteglbeihabjdiaaGreat
open Go Go.Cx Go.RowKit

theorem tmod_pos {x n : Int} (h : 0 < n) (ht : 0 ≤ x.tmod n) : x.tmod n = x % n := by
  have h1 := Int.tmod_add_mul_tdiv x n
  have h2 : x.tmod n < n := Int.tmod_lt_of_pos x h
  have h3 : x % n = (x.tmod n + n * x.tdiv n) % n := by rw [h1]
  rw [Int.add_mul_emod_self_left, Int.emod_eq_of_lt ht h2] at h3
  exact h3.symm
theorem tmod_neg {x n : Int} (h : 0 < n) (ht : x.tmod n < 0) : x.tmod n + n = x % n ∧ 0 ≤ x.tmod n + n ∧ x.tmod n + n < n := by
  have h1 := Int.tmod_add_mul_tdiv x n
  have h2 : -n < x.tmod n := Int.lt_tmod_of_pos x h
  have h3 : x % n = (x.tmod n + n * x.tdiv n) % n := by rw [h1]
  rw [Int.add_mul_emod_self_left] at h3
  have h5 : (x.tmod n + n) % n = x.tmod n + n := Int.emod_eq_of_lt (by omega) (by omega)
  rw [Int.add_emod_right] at h5
  exact ⟨by rw [h3, h5], by omega, by omega⟩

set_option maxHeartbeats 400000 in
theorem within_calls (x n : Int) (hn : 0 < n) (hn2 : n < 9223372036854775808) (w : World) : Calls Tryz.prog 7 #[.int .i64 x, .int .i64 n] w fun e w' => e = .returned (.int .i64 (x % n)) ∧ w' = w := by
  have hn0 : n ≠ 0 := by omega
  go_enter Tryz.func7, Tryz.ntmps7
  go_wp2
  all_goals go_ret
  · rename_i h
    obtain ⟨h1, h2, h3⟩ := tmod_neg hn h
    rw [h1] at h2 h3
    refine ⟨?_, rfl⟩
    rw [h1]
    have : wrap64 (x % n) = x % n := by unfold wrap64; omega
    simp [this]
  · rename_i h
    refine ⟨?_, rfl⟩
    simp [tmod_pos hn h]

theorem c0_und (L : Nat) (h : L < 35) : (ckOp 0 6 [] L (nI L) 0 (lvI L)) = true :=
  allR_spec c0_und_0 L (by omega) (by omega)
theorem c0_drop (L : Nat) (h : L < 34) : (allN L (fun k => ckOp 0 8 [nI k] L (.bool true) 0 (lvD L k []))) = true :=
  if h0 : L < 16 then allR_spec c0_drop_0 L (by omega) (by omega) else if h1 : L < 21 then allR_spec c0_drop_1 L (by omega) (by omega) else if h2 : L < 24 then allR_spec c0_drop_2 L (by omega) (by omega) else if h3 : L < 27 then allR_spec c0_drop_3 L (by omega) (by omega) else if h4 : L < 29 then allR_spec c0_drop_4 L (by omega) (by omega) else if h5 : L < 31 then allR_spec c0_drop_5 L (by omega) (by omega) else if h6 : L < 33 then allR_spec c0_drop_6 L (by omega) (by omega) else allR_spec c0_drop_7 L (by omega) (by omega)
theorem c0_twice (L : Nat) (h : L < 34) : (allN L (fun k => ckOp 0 10 [nI k] L (.bool true) 0 ⟨L, 1, k, [], [], 1, 0, Nat.succ L⟩)) = true :=
  if h0 : L < 16 then allR_spec c0_twice_0 L (by omega) (by omega) else if h1 : L < 21 then allR_spec c0_twice_1 L (by omega) (by omega) else if h2 : L < 24 then allR_spec c0_twice_2 L (by omega) (by omega) else if h3 : L < 27 then allR_spec c0_twice_3 L (by omega) (by omega) else if h4 : L < 29 then allR_spec c0_twice_4 L (by omega) (by omega) else if h5 : L < 31 then allR_spec c0_twice_5 L (by omega) (by omega) else if h6 : L < 33 then allR_spec c0_twice_6 L (by omega) (by omega) else allR_spec c0_twice_7 L (by omega) (by omega)
theorem c0_del0 (L : Nat) (h : L < 34) : (allN L (fun k => ckKK 0 11 [nI k] L k 0 (.bool true) (nxC 0 0) (lvD L k (nxR 0 0)))) = true :=
  if h0 : L < 14 then allR_spec c0_del0_0 L (by omega) (by omega) else if h1 : L < 18 then allR_spec c0_del0_1 L (by omega) (by omega) else if h2 : L < 21 then allR_spec c0_del0_2 L (by omega) (by omega) else if h3 : L < 23 then allR_spec c0_del0_3 L (by omega) (by omega) else if h4 : L < 25 then allR_spec c0_del0_4 L (by omega) (by omega) else if h5 : L < 26 then allR_spec c0_del0_5 L (by omega) (by omega) else if h6 : L < 27 then allR_spec c0_del0_6 L (by omega) (by omega) else if h7 : L < 28 then allR_spec c0_del0_7 L (by omega) (by omega) else if h8 : L < 29 then allR_spec c0_del0_8 L (by omega) (by omega) else if h9 : L < 30 then allR_spec c0_del0_9 L (by omega) (by omega) else if h10 : L < 31 then allR_spec c0_del0_10 L (by omega) (by omega) else if h11 : L < 32 then allR_spec c0_del0_11 L (by omega) (by omega) else if h12 : L < 33 then allR_spec c0_del0_12 L (by omega) (by omega) else allR_spec c0_del0_13 L (by omega) (by omega)
theorem c0_del1 (L : Nat) (h : L < 34) : (allN L (fun k => ckKK 0 11 [nI k] L k 1 (.bool true) (nxC 0 1) (lvD L k (nxR 0 1)))) = true :=
  if h0 : L < 14 then allR_spec c0_del1_0 L (by omega) (by omega) else if h1 : L < 18 then allR_spec c0_del1_1 L (by omega) (by omega) else if h2 : L < 21 then allR_spec c0_del1_2 L (by omega) (by omega) else if h3 : L < 23 then allR_spec c0_del1_3 L (by omega) (by omega) else if h4 : L < 25 then allR_spec c0_del1_4 L (by omega) (by omega) else if h5 : L < 26 then allR_spec c0_del1_5 L (by omega) (by omega) else if h6 : L < 27 then allR_spec c0_del1_6 L (by omega) (by omega) else if h7 : L < 28 then allR_spec c0_del1_7 L (by omega) (by omega) else if h8 : L < 29 then allR_spec c0_del1_8 L (by omega) (by omega) else if h9 : L < 30 then allR_spec c0_del1_9 L (by omega) (by omega) else if h10 : L < 31 then allR_spec c0_del1_10 L (by omega) (by omega) else if h11 : L < 32 then allR_spec c0_del1_11 L (by omega) (by omega) else if h12 : L < 33 then allR_spec c0_del1_12 L (by omega) (by omega) else allR_spec c0_del1_13 L (by omega) (by omega)
theorem c0_del2 (L : Nat) (h : L < 34) : (allN L (fun k => ckKK 0 11 [nI k] L k 2 (.bool true) (nxC 0 2) (lvD L k (nxR 0 2)))) = true :=
  if h0 : L < 14 then allR_spec c0_del2_0 L (by omega) (by omega) else if h1 : L < 18 then allR_spec c0_del2_1 L (by omega) (by omega) else if h2 : L < 21 then allR_spec c0_del2_2 L (by omega) (by omega) else if h3 : L < 23 then allR_spec c0_del2_3 L (by omega) (by omega) else if h4 : L < 25 then allR_spec c0_del2_4 L (by omega) (by omega) else if h5 : L < 26 then allR_spec c0_del2_5 L (by omega) (by omega) else if h6 : L < 27 then allR_spec c0_del2_6 L (by omega) (by omega) else if h7 : L < 28 then allR_spec c0_del2_7 L (by omega) (by omega) else if h8 : L < 29 then allR_spec c0_del2_8 L (by omega) (by omega) else if h9 : L < 30 then allR_spec c0_del2_9 L (by omega) (by omega) else if h10 : L < 31 then allR_spec c0_del2_10 L (by omega) (by omega) else if h11 : L < 32 then allR_spec c0_del2_11 L (by omega) (by omega) else if h12 : L < 33 then allR_spec c0_del2_12 L (by omega) (by omega) else allR_spec c0_del2_13 L (by omega) (by omega)
theorem c0_del3 (L : Nat) (h : L < 34) : (allN L (fun k => ckKK 0 11 [nI k] L k 3 (.bool true) (nxC 0 3) (lvD L k (nxR 0 3)))) = true :=
  if h0 : L < 14 then allR_spec c0_del3_0 L (by omega) (by omega) else if h1 : L < 18 then allR_spec c0_del3_1 L (by omega) (by omega) else if h2 : L < 21 then allR_spec c0_del3_2 L (by omega) (by omega) else if h3 : L < 23 then allR_spec c0_del3_3 L (by omega) (by omega) else if h4 : L < 25 then allR_spec c0_del3_4 L (by omega) (by omega) else if h5 : L < 26 then allR_spec c0_del3_5 L (by omega) (by omega) else if h6 : L < 27 then allR_spec c0_del3_6 L (by omega) (by omega) else if h7 : L < 28 then allR_spec c0_del3_7 L (by omega) (by omega) else if h8 : L < 29 then allR_spec c0_del3_8 L (by omega) (by omega) else if h9 : L < 30 then allR_spec c0_del3_9 L (by omega) (by omega) else if h10 : L < 31 then allR_spec c0_del3_10 L (by omega) (by omega) else if h11 : L < 32 then allR_spec c0_del3_11 L (by omega) (by omega) else if h12 : L < 33 then allR_spec c0_del3_12 L (by omega) (by omega) else allR_spec c0_del3_13 L (by omega) (by omega)
theorem c0_dropno (L : Nat) (h : L < 35) : (ckOp 0 8 [nP 0] L (.bool false) 0 (lvI L) && (ckOp 0 8 [nI L] L (.bool false) 0 (lvI L) && ckOp 0 8 [nI (Nat.succ L)] L (.bool false) 0 (lvI L))) = true :=
  allR_spec c0_dropno_0 L (by omega) (by omega)
theorem c0_twiceno (L : Nat) (h : L < 35) : (ckOp 0 10 [nP 0] L (.bool false) 0 (lvI L) && (ckOp 0 10 [nI L] L (.bool false) 0 (lvI L) && ckOp 0 10 [nI (Nat.succ L)] L (.bool false) 0 (lvI L))) = true :=
  allR_spec c0_twiceno_0 L (by omega) (by omega)
theorem c0_delno (L : Nat) (h : L < 35) : (ckOp 0 11 [nP 0] L (.bool false) 0 (lvI L) && (ckOp 0 11 [nI L] L (.bool false) 0 (lvI L) && ckOp 0 11 [nI (Nat.succ L)] L (.bool false) 0 (lvI L))) = true :=
  allR_spec c0_delno_0 L (by omega) (by omega)
theorem c0_dropbig (L : Nat) (h : L < 35) : (ckOp 0 8 [nI 1099511627776] L (.bool false) 0 (lvI L)) = true :=
  allR_spec c0_dropbig_0 L (by omega) (by omega)
theorem c1_und (L : Nat) (h : L < 35) : (ckOp 1 6 [] L (nI L) 1 (lvI L)) = true :=
  allR_spec c1_und_0 L (by omega) (by omega)
theorem c1_drop (L : Nat) (h : L < 34) : (allN L (fun k => ckOp 1 8 [nI k] L (.bool true) 1 (lvD L k []))) = true :=
  if h0 : L < 16 then allR_spec c1_drop_0 L (by omega) (by omega) else if h1 : L < 21 then allR_spec c1_drop_1 L (by omega) (by omega) else if h2 : L < 24 then allR_spec c1_drop_2 L (by omega) (by omega) else if h3 : L < 27 then allR_spec c1_drop_3 L (by omega) (by omega) else if h4 : L < 29 then allR_spec c1_drop_4 L (by omega) (by omega) else if h5 : L < 31 then allR_spec c1_drop_5 L (by omega) (by omega) else if h6 : L < 33 then allR_spec c1_drop_6 L (by omega) (by omega) else allR_spec c1_drop_7 L (by omega) (by omega)
theorem c1_twice (L : Nat) (h : L < 34) : (allN L (fun k => ckOp 1 10 [nI k] L (.bool true) 1 ⟨L, 1, k, [], [], 1, 0, Nat.succ L⟩)) = true :=
  if h0 : L < 16 then allR_spec c1_twice_0 L (by omega) (by omega) else if h1 : L < 21 then allR_spec c1_twice_1 L (by omega) (by omega) else if h2 : L < 24 then allR_spec c1_twice_2 L (by omega) (by omega) else if h3 : L < 27 then allR_spec c1_twice_3 L (by omega) (by omega) else if h4 : L < 29 then allR_spec c1_twice_4 L (by omega) (by omega) else if h5 : L < 31 then allR_spec c1_twice_5 L (by omega) (by omega) else if h6 : L < 33 then allR_spec c1_twice_6 L (by omega) (by omega) else allR_spec c1_twice_7 L (by omega) (by omega)
theorem c1_del0 (L : Nat) (h : L < 34) : (allN L (fun k => ckKK 1 11 [nI k] L k 0 (.bool true) (nxC 1 0) (lvD L k (nxR 1 0)))) = true :=
  if h0 : L < 14 then allR_spec c1_del0_0 L (by omega) (by omega) else if h1 : L < 18 then allR_spec c1_del0_1 L (by omega) (by omega) else if h2 : L < 21 then allR_spec c1_del0_2 L (by omega) (by omega) else if h3 : L < 23 then allR_spec c1_del0_3 L (by omega) (by omega) else if h4 : L < 25 then allR_spec c1_del0_4 L (by omega) (by omega) else if h5 : L < 26 then allR_spec c1_del0_5 L (by omega) (by omega) else if h6 : L < 27 then allR_spec c1_del0_6 L (by omega) (by omega) else if h7 : L < 28 then allR_spec c1_del0_7 L (by omega) (by omega) else if h8 : L < 29 then allR_spec c1_del0_8 L (by omega) (by omega) else if h9 : L < 30 then allR_spec c1_del0_9 L (by omega) (by omega) else if h10 : L < 31 then allR_spec c1_del0_10 L (by omega) (by omega) else if h11 : L < 32 then allR_spec c1_del0_11 L (by omega) (by omega) else if h12 : L < 33 then allR_spec c1_del0_12 L (by omega) (by omega) else allR_spec c1_del0_13 L (by omega) (by omega)
theorem c1_del1 (L : Nat) (h : L < 34) : (allN L (fun k => ckKK 1 11 [nI k] L k 1 (.bool true) (nxC 1 1) (lvD L k (nxR 1 1)))) = true :=
  if h0 : L < 14 then allR_spec c1_del1_0 L (by omega) (by omega) else if h1 : L < 18 then allR_spec c1_del1_1 L (by omega) (by omega) else if h2 : L < 21 then allR_spec c1_del1_2 L (by omega) (by omega) else if h3 : L < 23 then allR_spec c1_del1_3 L (by omega) (by omega) else if h4 : L < 25 then allR_spec c1_del1_4 L (by omega) (by omega) else if h5 : L < 26 then allR_spec c1_del1_5 L (by omega) (by omega) else if h6 : L < 27 then allR_spec c1_del1_6 L (by omega) (by omega) else if h7 : L < 28 then allR_spec c1_del1_7 L (by omega) (by omega) else if h8 : L < 29 then allR_spec c1_del1_8 L (by omega) (by omega) else if h9 : L < 30 then allR_spec c1_del1_9 L (by omega) (by omega) else if h10 : L < 31 then allR_spec c1_del1_10 L (by omega) (by omega) else if h11 : L < 32 then allR_spec c1_del1_11 L (by omega) (by omega) else if h12 : L < 33 then allR_spec c1_del1_12 L (by omega) (by omega) else allR_spec c1_del1_13 L (by omega) (by omega)
theorem c1_del2 (L : Nat) (h : L < 34) : (allN L (fun k => ckKK 1 11 [nI k] L k 2 (.bool true) (nxC 1 2) (lvD L k (nxR 1 2)))) = true :=
  if h0 : L < 14 then allR_spec c1_del2_0 L (by omega) (by omega) else if h1 : L < 18 then allR_spec c1_del2_1 L (by omega) (by omega) else if h2 : L < 21 then allR_spec c1_del2_2 L (by omega) (by omega) else if h3 : L < 23 then allR_spec c1_del2_3 L (by omega) (by omega) else if h4 : L < 25 then allR_spec c1_del2_4 L (by omega) (by omega) else if h5 : L < 26 then allR_spec c1_del2_5 L (by omega) (by omega) else if h6 : L < 27 then allR_spec c1_del2_6 L (by omega) (by omega) else if h7 : L < 28 then allR_spec c1_del2_7 L (by omega) (by omega) else if h8 : L < 29 then allR_spec c1_del2_8 L (by omega) (by omega) else if h9 : L < 30 then allR_spec c1_del2_9 L (by omega) (by omega) else if h10 : L < 31 then allR_spec c1_del2_10 L (by omega) (by omega) else if h11 : L < 32 then allR_spec c1_del2_11 L (by omega) (by omega) else if h12 : L < 33 then allR_spec c1_del2_12 L (by omega) (by omega) else allR_spec c1_del2_13 L (by omega) (by omega)
theorem c1_del3 (L : Nat) (h : L < 34) : (allN L (fun k => ckKK 1 11 [nI k] L k 3 (.bool true) (nxC 1 3) (lvD L k (nxR 1 3)))) = true :=
  if h0 : L < 14 then allR_spec c1_del3_0 L (by omega) (by omega) else if h1 : L < 18 then allR_spec c1_del3_1 L (by omega) (by omega) else if h2 : L < 21 then allR_spec c1_del3_2 L (by omega) (by omega) else if h3 : L < 23 then allR_spec c1_del3_3 L (by omega) (by omega) else if h4 : L < 25 then allR_spec c1_del3_4 L (by omega) (by omega) else if h5 : L < 26 then allR_spec c1_del3_5 L (by omega) (by omega) else if h6 : L < 27 then allR_spec c1_del3_6 L (by omega) (by omega) else if h7 : L < 28 then allR_spec c1_del3_7 L (by omega) (by omega) else if h8 : L < 29 then allR_spec c1_del3_8 L (by omega) (by omega) else if h9 : L < 30 then allR_spec c1_del3_9 L (by omega) (by omega) else if h10 : L < 31 then allR_spec c1_del3_10 L (by omega) (by omega) else if h11 : L < 32 then allR_spec c1_del3_11 L (by omega) (by omega) else if h12 : L < 33 then allR_spec c1_del3_12 L (by omega) (by omega) else allR_spec c1_del3_13 L (by omega) (by omega)
theorem c1_dropno (L : Nat) (h : L < 35) : (ckOp 1 8 [nP 0] L (.bool false) 1 (lvI L) && (ckOp 1 8 [nI L] L (.bool false) 1 (lvI L) && ckOp 1 8 [nI (Nat.succ L)] L (.bool false) 1 (lvI L))) = true :=
  allR_spec c1_dropno_0 L (by omega) (by omega)
theorem c1_twiceno (L : Nat) (h : L < 35) : (ckOp 1 10 [nP 0] L (.bool false) 1 (lvI L) && (ckOp 1 10 [nI L] L (.bool false) 1 (lvI L) && ckOp 1 10 [nI (Nat.succ L)] L (.bool false) 1 (lvI L))) = true :=
  allR_spec c1_twiceno_0 L (by omega) (by omega)
theorem c1_delno (L : Nat) (h : L < 35) : (ckOp 1 11 [nP 0] L (.bool false) 1 (lvI L) && (ckOp 1 11 [nI L] L (.bool false) 1 (lvI L) && ckOp 1 11 [nI (Nat.succ L)] L (.bool false) 1 (lvI L))) = true :=
  allR_spec c1_delno_0 L (by omega) (by omega)
theorem c1_dropbig (L : Nat) (h : L < 35) : (ckOp 1 8 [nI 1099511627776] L (.bool false) 1 (lvI L)) = true :=
  allR_spec c1_dropbig_0 L (by omega) (by omega)
theorem c2_und (L : Nat) (h : L < 35) : (ckOp 2 6 [] L (nI L) 2 (lvI L)) = true :=
  allR_spec c2_und_0 L (by omega) (by omega)
theorem c2_drop (L : Nat) (h : L < 34) : (allN L (fun k => ckOp 2 8 [nI k] L (.bool true) 2 (lvD L k []))) = true :=
  if h0 : L < 16 then allR_spec c2_drop_0 L (by omega) (by omega) else if h1 : L < 21 then allR_spec c2_drop_1 L (by omega) (by omega) else if h2 : L < 24 then allR_spec c2_drop_2 L (by omega) (by omega) else if h3 : L < 27 then allR_spec c2_drop_3 L (by omega) (by omega) else if h4 : L < 29 then allR_spec c2_drop_4 L (by omega) (by omega) else if h5 : L < 31 then allR_spec c2_drop_5 L (by omega) (by omega) else if h6 : L < 33 then allR_spec c2_drop_6 L (by omega) (by omega) else allR_spec c2_drop_7 L (by omega) (by omega)
theorem c2_twice (L : Nat) (h : L < 34) : (allN L (fun k => ckOp 2 10 [nI k] L (.bool true) 2 ⟨L, 1, k, [], [], 1, 0, Nat.succ L⟩)) = true :=
  if h0 : L < 16 then allR_spec c2_twice_0 L (by omega) (by omega) else if h1 : L < 21 then allR_spec c2_twice_1 L (by omega) (by omega) else if h2 : L < 24 then allR_spec c2_twice_2 L (by omega) (by omega) else if h3 : L < 27 then allR_spec c2_twice_3 L (by omega) (by omega) else if h4 : L < 29 then allR_spec c2_twice_4 L (by omega) (by omega) else if h5 : L < 31 then allR_spec c2_twice_5 L (by omega) (by omega) else if h6 : L < 33 then allR_spec c2_twice_6 L (by omega) (by omega) else allR_spec c2_twice_7 L (by omega) (by omega)
theorem c2_del0 (L : Nat) (h : L < 34) : (allN L (fun k => ckKK 2 11 [nI k] L k 0 (.bool true) (nxC 2 0) (lvD L k (nxR 2 0)))) = true :=
  if h0 : L < 14 then allR_spec c2_del0_0 L (by omega) (by omega) else if h1 : L < 18 then allR_spec c2_del0_1 L (by omega) (by omega) else if h2 : L < 21 then allR_spec c2_del0_2 L (by omega) (by omega) else if h3 : L < 23 then allR_spec c2_del0_3 L (by omega) (by omega) else if h4 : L < 25 then allR_spec c2_del0_4 L (by omega) (by omega) else if h5 : L < 26 then allR_spec c2_del0_5 L (by omega) (by omega) else if h6 : L < 27 then allR_spec c2_del0_6 L (by omega) (by omega) else if h7 : L < 28 then allR_spec c2_del0_7 L (by omega) (by omega) else if h8 : L < 29 then allR_spec c2_del0_8 L (by omega) (by omega) else if h9 : L < 30 then allR_spec c2_del0_9 L (by omega) (by omega) else if h10 : L < 31 then allR_spec c2_del0_10 L (by omega) (by omega) else if h11 : L < 32 then allR_spec c2_del0_11 L (by omega) (by omega) else if h12 : L < 33 then allR_spec c2_del0_12 L (by omega) (by omega) else allR_spec c2_del0_13 L (by omega) (by omega)
theorem c2_del1 (L : Nat) (h : L < 34) : (allN L (fun k => ckKK 2 11 [nI k] L k 1 (.bool true) (nxC 2 1) (lvD L k (nxR 2 1)))) = true :=
  if h0 : L < 14 then allR_spec c2_del1_0 L (by omega) (by omega) else if h1 : L < 18 then allR_spec c2_del1_1 L (by omega) (by omega) else if h2 : L < 21 then allR_spec c2_del1_2 L (by omega) (by omega) else if h3 : L < 23 then allR_spec c2_del1_3 L (by omega) (by omega) else if h4 : L < 25 then allR_spec c2_del1_4 L (by omega) (by omega) else if h5 : L < 26 then allR_spec c2_del1_5 L (by omega) (by omega) else if h6 : L < 27 then allR_spec c2_del1_6 L (by omega) (by omega) else if h7 : L < 28 then allR_spec c2_del1_7 L (by omega) (by omega) else if h8 : L < 29 then allR_spec c2_del1_8 L (by omega) (by omega) else if h9 : L < 30 then allR_spec c2_del1_9 L (by omega) (by omega) else if h10 : L < 31 then allR_spec c2_del1_10 L (by omega) (by omega) else if h11 : L < 32 then allR_spec c2_del1_11 L (by omega) (by omega) else if h12 : L < 33 then allR_spec c2_del1_12 L (by omega) (by omega) else allR_spec c2_del1_13 L (by omega) (by omega)
theorem c2_del2 (L : Nat) (h : L < 34) : (allN L (fun k => ckKK 2 11 [nI k] L k 2 (.bool true) (nxC 2 2) (lvD L k (nxR 2 2)))) = true :=
  if h0 : L < 14 then allR_spec c2_del2_0 L (by omega) (by omega) else if h1 : L < 18 then allR_spec c2_del2_1 L (by omega) (by omega) else if h2 : L < 21 then allR_spec c2_del2_2 L (by omega) (by omega) else if h3 : L < 23 then allR_spec c2_del2_3 L (by omega) (by omega) else if h4 : L < 25 then allR_spec c2_del2_4 L (by omega) (by omega) else if h5 : L < 26 then allR_spec c2_del2_5 L (by omega) (by omega) else if h6 : L < 27 then allR_spec c2_del2_6 L (by omega) (by omega) else if h7 : L < 28 then allR_spec c2_del2_7 L (by omega) (by omega) else if h8 : L < 29 then allR_spec c2_del2_8 L (by omega) (by omega) else if h9 : L < 30 then allR_spec c2_del2_9 L (by omega) (by omega) else if h10 : L < 31 then allR_spec c2_del2_10 L (by omega) (by omega) else if h11 : L < 32 then allR_spec c2_del2_11 L (by omega) (by omega) else if h12 : L < 33 then allR_spec c2_del2_12 L (by omega) (by omega) else allR_spec c2_del2_13 L (by omega) (by omega)
theorem c2_del3 (L : Nat) (h : L < 34) : (allN L (fun k => ckKK 2 11 [nI k] L k 3 (.bool true) (nxC 2 3) (lvD L k (nxR 2 3)))) = true :=
  if h0 : L < 14 then allR_spec c2_del3_0 L (by omega) (by omega) else if h1 : L < 18 then allR_spec c2_del3_1 L (by omega) (by omega) else if h2 : L < 21 then allR_spec c2_del3_2 L (by omega) (by omega) else if h3 : L < 23 then allR_spec c2_del3_3 L (by omega) (by omega) else if h4 : L < 25 then allR_spec c2_del3_4 L (by omega) (by omega) else if h5 : L < 26 then allR_spec c2_del3_5 L (by omega) (by omega) else if h6 : L < 27 then allR_spec c2_del3_6 L (by omega) (by omega) else if h7 : L < 28 then allR_spec c2_del3_7 L (by omega) (by omega) else if h8 : L < 29 then allR_spec c2_del3_8 L (by omega) (by omega) else if h9 : L < 30 then allR_spec c2_del3_9 L (by omega) (by omega) else if h10 : L < 31 then allR_spec c2_del3_10 L (by omega) (by omega) else if h11 : L < 32 then allR_spec c2_del3_11 L (by omega) (by omega) else if h12 : L < 33 then allR_spec c2_del3_12 L (by omega) (by omega) else allR_spec c2_del3_13 L (by omega) (by omega)
theorem c2_dropno (L : Nat) (h : L < 35) : (ckOp 2 8 [nP 0] L (.bool false) 2 (lvI L) && (ckOp 2 8 [nI L] L (.bool false) 2 (lvI L) && ckOp 2 8 [nI (Nat.succ L)] L (.bool false) 2 (lvI L))) = true :=
  allR_spec c2_dropno_0 L (by omega) (by omega)
theorem c2_twiceno (L : Nat) (h : L < 35) : (ckOp 2 10 [nP 0] L (.bool false) 2 (lvI L) && (ckOp 2 10 [nI L] L (.bool false) 2 (lvI L) && ckOp 2 10 [nI (Nat.succ L)] L (.bool false) 2 (lvI L))) = true :=
  allR_spec c2_twiceno_0 L (by omega) (by omega)
theorem c2_delno (L : Nat) (h : L < 35) : (ckOp 2 11 [nP 0] L (.bool false) 2 (lvI L) && (ckOp 2 11 [nI L] L (.bool false) 2 (lvI L) && ckOp 2 11 [nI (Nat.succ L)] L (.bool false) 2 (lvI L))) = true :=
  allR_spec c2_delno_0 L (by omega) (by omega)
theorem c2_dropbig (L : Nat) (h : L < 35) : (ckOp 2 8 [nI 1099511627776] L (.bool false) 2 (lvI L)) = true :=
  allR_spec c2_dropbig_0 L (by omega) (by omega)
theorem c3_und (L : Nat) (h : L < 35) : (ckOp 3 6 [] L (nI L) 3 (lvI L)) = true :=
  allR_spec c3_und_0 L (by omega) (by omega)
theorem c3_drop (L : Nat) (h : L < 34) : (allN L (fun k => ckOp 3 8 [nI k] L (.bool true) 3 (lvD L k []))) = true :=
  if h0 : L < 16 then allR_spec c3_drop_0 L (by omega) (by omega) else if h1 : L < 21 then allR_spec c3_drop_1 L (by omega) (by omega) else if h2 : L < 24 then allR_spec c3_drop_2 L (by omega) (by omega) else if h3 : L < 27 then allR_spec c3_drop_3 L (by omega) (by omega) else if h4 : L < 29 then allR_spec c3_drop_4 L (by omega) (by omega) else if h5 : L < 31 then allR_spec c3_drop_5 L (by omega) (by omega) else if h6 : L < 33 then allR_spec c3_drop_6 L (by omega) (by omega) else allR_spec c3_drop_7 L (by omega) (by omega)
theorem c3_twice (L : Nat) (h : L < 34) : (allN L (fun k => ckOp 3 10 [nI k] L (.bool true) 3 ⟨L, 1, k, [], [], 1, 0, Nat.succ L⟩)) = true :=
  if h0 : L < 16 then allR_spec c3_twice_0 L (by omega) (by omega) else if h1 : L < 21 then allR_spec c3_twice_1 L (by omega) (by omega) else if h2 : L < 24 then allR_spec c3_twice_2 L (by omega) (by omega) else if h3 : L < 27 then allR_spec c3_twice_3 L (by omega) (by omega) else if h4 : L < 29 then allR_spec c3_twice_4 L (by omega) (by omega) else if h5 : L < 31 then allR_spec c3_twice_5 L (by omega) (by omega) else if h6 : L < 33 then allR_spec c3_twice_6 L (by omega) (by omega) else allR_spec c3_twice_7 L (by omega) (by omega)
theorem c3_del0 (L : Nat) (h : L < 34) : (allN L (fun k => ckKK 3 11 [nI k] L k 0 (.bool true) (nxC 3 0) (lvD L k (nxR 3 0)))) = true :=
  if h0 : L < 14 then allR_spec c3_del0_0 L (by omega) (by omega) else if h1 : L < 18 then allR_spec c3_del0_1 L (by omega) (by omega) else if h2 : L < 21 then allR_spec c3_del0_2 L (by omega) (by omega) else if h3 : L < 23 then allR_spec c3_del0_3 L (by omega) (by omega) else if h4 : L < 25 then allR_spec c3_del0_4 L (by omega) (by omega) else if h5 : L < 26 then allR_spec c3_del0_5 L (by omega) (by omega) else if h6 : L < 27 then allR_spec c3_del0_6 L (by omega) (by omega) else if h7 : L < 28 then allR_spec c3_del0_7 L (by omega) (by omega) else if h8 : L < 29 then allR_spec c3_del0_8 L (by omega) (by omega) else if h9 : L < 30 then allR_spec c3_del0_9 L (by omega) (by omega) else if h10 : L < 31 then allR_spec c3_del0_10 L (by omega) (by omega) else if h11 : L < 32 then allR_spec c3_del0_11 L (by omega) (by omega) else if h12 : L < 33 then allR_spec c3_del0_12 L (by omega) (by omega) else allR_spec c3_del0_13 L (by omega) (by omega)
theorem c3_del1 (L : Nat) (h : L < 34) : (allN L (fun k => ckKK 3 11 [nI k] L k 1 (.bool true) (nxC 3 1) (lvD L k (nxR 3 1)))) = true :=
  if h0 : L < 14 then allR_spec c3_del1_0 L (by omega) (by omega) else if h1 : L < 18 then allR_spec c3_del1_1 L (by omega) (by omega) else if h2 : L < 21 then allR_spec c3_del1_2 L (by omega) (by omega) else if h3 : L < 23 then allR_spec c3_del1_3 L (by omega) (by omega) else if h4 : L < 25 then allR_spec c3_del1_4 L (by omega) (by omega) else if h5 : L < 26 then allR_spec c3_del1_5 L (by omega) (by omega) else if h6 : L < 27 then allR_spec c3_del1_6 L (by omega) (by omega) else if h7 : L < 28 then allR_spec c3_del1_7 L (by omega) (by omega) else if h8 : L < 29 then allR_spec c3_del1_8 L (by omega) (by omega) else if h9 : L < 30 then allR_spec c3_del1_9 L (by omega) (by omega) else if h10 : L < 31 then allR_spec c3_del1_10 L (by omega) (by omega) else if h11 : L < 32 then allR_spec c3_del1_11 L (by omega) (by omega) else if h12 : L < 33 then allR_spec c3_del1_12 L (by omega) (by omega) else allR_spec c3_del1_13 L (by omega) (by omega)
theorem c3_del2 (L : Nat) (h : L < 34) : (allN L (fun k => ckKK 3 11 [nI k] L k 2 (.bool true) (nxC 3 2) (lvD L k (nxR 3 2)))) = true :=
  if h0 : L < 14 then allR_spec c3_del2_0 L (by omega) (by omega) else if h1 : L < 18 then allR_spec c3_del2_1 L (by omega) (by omega) else if h2 : L < 21 then allR_spec c3_del2_2 L (by omega) (by omega) else if h3 : L < 23 then allR_spec c3_del2_3 L (by omega) (by omega) else if h4 : L < 25 then allR_spec c3_del2_4 L (by omega) (by omega) else if h5 : L < 26 then allR_spec c3_del2_5 L (by omega) (by omega) else if h6 : L < 27 then allR_spec c3_del2_6 L (by omega) (by omega) else if h7 : L < 28 then allR_spec c3_del2_7 L (by omega) (by omega) else if h8 : L < 29 then allR_spec c3_del2_8 L (by omega) (by omega) else if h9 : L < 30 then allR_spec c3_del2_9 L (by omega) (by omega) else if h10 : L < 31 then allR_spec c3_del2_10 L (by omega) (by omega) else if h11 : L < 32 then allR_spec c3_del2_11 L (by omega) (by omega) else if h12 : L < 33 then allR_spec c3_del2_12 L (by omega) (by omega) else allR_spec c3_del2_13 L (by omega) (by omega)
theorem c3_del3 (L : Nat) (h : L < 34) : (allN L (fun k => ckKK 3 11 [nI k] L k 3 (.bool true) (nxC 3 3) (lvD L k (nxR 3 3)))) = true :=
  if h0 : L < 14 then allR_spec c3_del3_0 L (by omega) (by omega) else if h1 : L < 18 then allR_spec c3_del3_1 L (by omega) (by omega) else if h2 : L < 21 then allR_spec c3_del3_2 L (by omega) (by omega) else if h3 : L < 23 then allR_spec c3_del3_3 L (by omega) (by omega) else if h4 : L < 25 then allR_spec c3_del3_4 L (by omega) (by omega) else if h5 : L < 26 then allR_spec c3_del3_5 L (by omega) (by omega) else if h6 : L < 27 then allR_spec c3_del3_6 L (by omega) (by omega) else if h7 : L < 28 then allR_spec c3_del3_7 L (by omega) (by omega) else if h8 : L < 29 then allR_spec c3_del3_8 L (by omega) (by omega) else if h9 : L < 30 then allR_spec c3_del3_9 L (by omega) (by omega) else if h10 : L < 31 then allR_spec c3_del3_10 L (by omega) (by omega) else if h11 : L < 32 then allR_spec c3_del3_11 L (by omega) (by omega) else if h12 : L < 33 then allR_spec c3_del3_12 L (by omega) (by omega) else allR_spec c3_del3_13 L (by omega) (by omega)
theorem c3_dropno (L : Nat) (h : L < 35) : (ckOp 3 8 [nP 0] L (.bool false) 3 (lvI L) && (ckOp 3 8 [nI L] L (.bool false) 3 (lvI L) && ckOp 3 8 [nI (Nat.succ L)] L (.bool false) 3 (lvI L))) = true :=
  allR_spec c3_dropno_0 L (by omega) (by omega)
theorem c3_twiceno (L : Nat) (h : L < 35) : (ckOp 3 10 [nP 0] L (.bool false) 3 (lvI L) && (ckOp 3 10 [nI L] L (.bool false) 3 (lvI L) && ckOp 3 10 [nI (Nat.succ L)] L (.bool false) 3 (lvI L))) = true :=
  allR_spec c3_twiceno_0 L (by omega) (by omega)
theorem c3_delno (L : Nat) (h : L < 35) : (ckOp 3 11 [nP 0] L (.bool false) 3 (lvI L) && (ckOp 3 11 [nI L] L (.bool false) 3 (lvI L) && ckOp 3 11 [nI (Nat.succ L)] L (.bool false) 3 (lvI L))) = true :=
  allR_spec c3_delno_0 L (by omega) (by omega)
theorem c3_dropbig (L : Nat) (h : L < 35) : (ckOp 3 8 [nI 1099511627776] L (.bool false) 3 (lvI L)) = true :=
  allR_spec c3_dropbig_0 L (by omega) (by omega)
theorem a_und (c L : Nat) (hc : c < 4) (h : L < 35) : ckOp c 6 [] L (nI L) c (lvI L) = true := match c, hc with
  | 0, _ => c0_und L h
  | 1, _ => c1_und L h
  | 2, _ => c2_und L h
  | 3, _ => c3_und L h
  | c + 4, h => absurd h (by omega)
theorem a_drop (c L k : Nat) (hc : c < 4) (h : L < 34) (hk : k < L) : ckOp c 8 [nI k] L (.bool true) c (lvD L k []) = true := match c, hc with
  | 0, _ => allN_spec (c0_drop L h) k hk
  | 1, _ => allN_spec (c1_drop L h) k hk
  | 2, _ => allN_spec (c2_drop L h) k hk
  | 3, _ => allN_spec (c3_drop L h) k hk
  | c + 4, h => absurd h (by omega)
theorem a_twice (c L k : Nat) (hc : c < 4) (h : L < 34) (hk : k < L) : ckOp c 10 [nI k] L (.bool true) c ⟨L, 1, k, [], [], 1, 0, Nat.succ L⟩ = true := match c, hc with
  | 0, _ => allN_spec (c0_twice L h) k hk
  | 1, _ => allN_spec (c1_twice L h) k hk
  | 2, _ => allN_spec (c2_twice L h) k hk
  | 3, _ => allN_spec (c3_twice L h) k hk
  | c + 4, h => absurd h (by omega)
theorem a_dropno (c L : Nat) (hc : c < 4) (h : L < 35) : (ckOp c 8 [nP 0] L (.bool false) c (lvI L) && (ckOp c 8 [nI L] L (.bool false) c (lvI L) && ckOp c 8 [nI (Nat.succ L)] L (.bool false) c (lvI L))) = true := match c, hc with
  | 0, _ => c0_dropno L h
  | 1, _ => c1_dropno L h
  | 2, _ => c2_dropno L h
  | 3, _ => c3_dropno L h
  | c + 4, h => absurd h (by omega)
theorem a_twiceno (c L : Nat) (hc : c < 4) (h : L < 35) : (ckOp c 10 [nP 0] L (.bool false) c (lvI L) && (ckOp c 10 [nI L] L (.bool false) c (lvI L) && ckOp c 10 [nI (Nat.succ L)] L (.bool false) c (lvI L))) = true := match c, hc with
  | 0, _ => c0_twiceno L h
  | 1, _ => c1_twiceno L h
  | 2, _ => c2_twiceno L h
  | 3, _ => c3_twiceno L h
  | c + 4, h => absurd h (by omega)
theorem a_delno (c L : Nat) (hc : c < 4) (h : L < 35) : (ckOp c 11 [nP 0] L (.bool false) c (lvI L) && (ckOp c 11 [nI L] L (.bool false) c (lvI L) && ckOp c 11 [nI (Nat.succ L)] L (.bool false) c (lvI L))) = true := match c, hc with
  | 0, _ => c0_delno L h
  | 1, _ => c1_delno L h
  | 2, _ => c2_delno L h
  | 3, _ => c3_delno L h
  | c + 4, h => absurd h (by omega)
theorem a_dropbig (c L : Nat) (hc : c < 4) (h : L < 35) : ckOp c 8 [nI 1099511627776] L (.bool false) c (lvI L) = true := match c, hc with
  | 0, _ => c0_dropbig L h
  | 1, _ => c1_dropbig L h
  | 2, _ => c2_dropbig L h
  | 3, _ => c3_dropbig L h
  | c + 4, h => absurd h (by omega)
theorem a_del (c L k kk : Nat) (hc : c < 4) (hkk : kk < 4) (h : L < 34) (hk : k < L) : ckKK c 11 [nI k] L k kk (.bool true) (nxC c kk) (lvD L k (nxR c kk)) = true := match c, kk, hc, hkk with
  | 0, 0, _, _ => allN_spec (c0_del0 L h) k hk
  | 0, 1, _, _ => allN_spec (c0_del1 L h) k hk
  | 0, 2, _, _ => allN_spec (c0_del2 L h) k hk
  | 0, 3, _, _ => allN_spec (c0_del3 L h) k hk
  | 1, 0, _, _ => allN_spec (c1_del0 L h) k hk
  | 1, 1, _, _ => allN_spec (c1_del1 L h) k hk
  | 1, 2, _, _ => allN_spec (c1_del2 L h) k hk
  | 1, 3, _, _ => allN_spec (c1_del3 L h) k hk
  | 2, 0, _, _ => allN_spec (c2_del0 L h) k hk
  | 2, 1, _, _ => allN_spec (c2_del1 L h) k hk
  | 2, 2, _, _ => allN_spec (c2_del2 L h) k hk
  | 2, 3, _, _ => allN_spec (c2_del3 L h) k hk
  | 3, 0, _, _ => allN_spec (c3_del0 L h) k hk
  | 3, 1, _, _ => allN_spec (c3_del1 L h) k hk
  | 3, 2, _, _ => allN_spec (c3_del2 L h) k hk
  | 3, 3, _, _ => allN_spec (c3_del3 L h) k hk
  | c + 4, _, h, _ => absurd h (by omega)
  | _, kk + 4, _, h => absurd h (by omega)
/-- a group with m messages under way -/
def EN (m : Nat) (w0 : World) (u : Value) (w : World) : Prop := ∃ c ks, c < 4 ∧ ks.length = m ∧ (bs c).D kM 80 10 4 ks w0 u w
theorem opK_len {ks rs : List Nat} {a b c : Nat} (ha : a ≤ ks.length) (hb : c + b ≤ ks.length) : (opK ks a b c rs).length = a + b + rs.length := by
  unfold opK
  simp only [List.length_append, List.length_take, List.length_drop]
  omega
theorem bs_o (c : Nat) (hc : c < 4) : (bs c).ok = true := allN_spec bs_ok c hc
theorem op_E {c c' f m m' : Nat} {ks : List Nat} {args : List Value} {v u : Value} {x : Lv} {w0 w : World} (hl : ks.length = m) (hc' : c' < 4) (h : ckOp c f args m v c' x = true) (hf : free v = true) (hA : ∀ a ∈ args, cellV a = true) (hr : ∀ k ∈ x.rs, k < 4) (ha : x.a ≤ m) (hc : x.c + x.b ≤ m) (hm : x.a + x.b + x.rs.length = m') (hw : (bs c).D kM 80 10 4 ks w0 u w) :
    Calls Tryz.prog f ⟨u :: args⟩ w fun e w' => e = .returned v ∧ EN m' w0 u w' := by
  subst hl
  refine (Bas.D.op (fun l => hcf l _) (bs_o c' hc') kOk hf hA hr ha hc h hw).mono ?_
  rintro e w' ⟨h1, h2⟩
  exact ⟨h1, c', _, hc', by rw [opK_len ha hc]; exact hm, h2⟩
theorem cells0 : ∀ a ∈ ([] : List Value), cellV a = true := fun _ h => absurd h List.not_mem_nil
theorem cells1 {a : Value} (h : cellV a = true) : ∀ x ∈ [a], cellV x = true := fun x hx => by rw [List.mem_singleton.1 hx]; exact h
theorem norm0 : ∀ k ∈ ([] : List Nat), k < 4 := fun _ h => absurd h List.not_mem_nil

section
variable {m : Nat} {w0 w : World} {u : Value}
theorem e_und (hm : m ≤ 34) (hw : EN m w0 u w) : Calls Tryz.prog 6 #[u] w fun e w' => e = .returned (.int .i64 (m : Int)) ∧ EN m w0 u w' := by
  obtain ⟨c, ks, hc, hl, hw⟩ := hw
  exact op_E (x := lvI m) hl hc (a_und c m hc (by omega)) rfl cells0 norm0 (Nat.le_refl _) (Nat.zero_le _) rfl hw
theorem no_of {f : Nat} (hE : ∀ c L, c < 4 → L < 34 + 1 → (ckOp c f [nP 0] L (.bool false) c (lvI L) && (ckOp c f [nI L] L (.bool false) c (lvI L) && ckOp c f [nI (Nat.succ L)] L (.bool false) c (lvI L))) = true)
    {z : Int} (hm : m ≤ 34) (h1 : -1 ≤ z) (h2 : z ≤ m + 1) (h3 : ¬ (0 ≤ z ∧ z < m)) (hw : EN m w0 u w) : Calls Tryz.prog f #[u, .int .i64 z] w fun e w' => e = .returned (.bool false) ∧ EN m w0 u w' := by
  obtain ⟨c, ks, hc, hl, hw⟩ := hw
  have key : ∀ v : Value, cellV v = true → ckOp c f [v] m (.bool false) c (lvI m) = true → Calls Tryz.prog f ⟨[u, v]⟩ w fun e w' => e = .returned (.bool false) ∧ EN m w0 u w' := fun v hv c1 =>
    op_E (x := lvI m) hl hc c1 rfl (cells1 hv) norm0 (Nat.le_refl _) (Nat.zero_le _) rfl hw
  have ch := hE c m hc (by omega)
  simp only [Bool.and_eq_true] at ch
  rcases (show z = -1 ∨ z = m ∨ z = m + 1 by omega) with rfl | rfl | rfl
  · exact key (nP 0) rfl ch.1
  · exact key (nI m) rfl ch.2.1
  · exact key (nI (Nat.succ m)) rfl ch.2.2
theorem e_dropno {z : Int} (hm : m ≤ 34) (h1 : -1 ≤ z) (h2 : z ≤ m + 1) (h3 : ¬ (0 ≤ z ∧ z < m)) (hw : EN m w0 u w) : Calls Tryz.prog 8 #[u, .int .i64 z] w fun e w' => e = .returned (.bool false) ∧ EN m w0 u w' := no_of a_dropno hm h1 h2 h3 hw
theorem e_twiceno {z : Int} (hm : m ≤ 34) (h1 : -1 ≤ z) (h2 : z ≤ m + 1) (h3 : ¬ (0 ≤ z ∧ z < m)) (hw : EN m w0 u w) : Calls Tryz.prog 10 #[u, .int .i64 z] w fun e w' => e = .returned (.bool false) ∧ EN m w0 u w' := no_of a_twiceno hm h1 h2 h3 hw
theorem e_delno {z : Int} (hm : m ≤ 34) (h1 : -1 ≤ z) (h2 : z ≤ m + 1) (h3 : ¬ (0 ≤ z ∧ z < m)) (hw : EN m w0 u w) : Calls Tryz.prog 11 #[u, .int .i64 z] w fun e w' => e = .returned (.bool false) ∧ EN m w0 u w' := no_of a_delno hm h1 h2 h3 hw
theorem e_dropbig (hm : m ≤ 34) (hw : EN m w0 u w) : Calls Tryz.prog 8 #[u, .int .i64 1099511627776] w fun e w' => e = .returned (.bool false) ∧ EN m w0 u w' := by
  obtain ⟨c, ks, hc, hl, hw⟩ := hw
  exact op_E (args := [nI 1099511627776]) (x := lvI m) hl hc (a_dropbig c m hc (by omega)) rfl (cells1 rfl) norm0 (Nat.le_refl _) (Nat.zero_le _) rfl hw
theorem e_drop {k : Nat} (hm : m < 34) (hk : k < m) (hw : EN m w0 u w) : Calls Tryz.prog 8 #[u, .int .i64 (k : Int)] w fun e w' => e = .returned (.bool true) ∧ EN (m - 1) w0 u w' := by
  obtain ⟨c, ks, hc, hl, hw⟩ := hw
  exact op_E (args := [nI k]) (x := lvD m k []) hl hc (a_drop c m k hc hm hk) rfl (cells1 rfl) norm0 (by show k ≤ m; omega) (by show k + 1 + (m - 1 - k) ≤ m; omega) (by show k + (m - 1 - k) + 0 = m - 1; omega) hw
theorem e_twice {k : Nat} (hm : m < 34) (hk : k < m) (hw : EN m w0 u w) : Calls Tryz.prog 10 #[u, .int .i64 (k : Int)] w fun e w' => e = .returned (.bool true) ∧ EN (m + 1) w0 u w' := by
  obtain ⟨c, ks, hc, hl, hw⟩ := hw
  exact op_E (args := [nI k]) (x := ⟨m, 1, k, [], [], 1, 0, Nat.succ m⟩) hl hc (a_twice c m k hc hm hk) rfl (cells1 rfl) norm0 (Nat.le_refl _) (by show k + 1 ≤ m; omega) rfl hw
theorem nx_ok : allN 4 (fun c => allN 4 (fun kk => Nat.ble (Nat.succ (nxC c kk)) 4 && (Nat.ble (len (nxR c kk)) 1 && allL (fun r => Nat.ble (Nat.succ r) 4) (nxR c kk)))) = true := by kernel_rfl
theorem e_del {k : Nat} (hm : m < 34) (hk : k < m) (hw : EN m w0 u w) : Calls Tryz.prog 11 #[u, .int .i64 (k : Int)] w fun e w' => e = .returned (.bool true) ∧ ∃ m', m' ≤ m ∧ m ≤ m' + 1 ∧ EN m' w0 u w' := by
  obtain ⟨c, ks, hc, rfl, hw⟩ := hw
  have hkk : ks[k]? = some ks[k] := List.getElem?_eq_getElem hk
  generalize ks[k] = kk at hkk
  have hK : kk < 4 := hw.1 kk (List.mem_of_getElem? hkk)
  have h := a_del c ks.length k kk hc hK hm hk
  have hx := allN_spec (allN_spec nx_ok c hc) kk hK
  simp only [Bool.and_eq_true, allL_eq, List.all_eq_true, len_eq] at hx
  obtain ⟨x1, x2, x3⟩ := hx
  have x1 : nxC c kk < 4 := Nat.le_of_ble_eq_true x1
  have x2 := Nat.le_of_ble_eq_true x2
  unfold ckKK at h
  generalize nxR c kk = rs at h x2 x3
  match rs, x2 with
  | [], _ =>
    refine (Bas.D.opk (x := lvD ks.length k []) (fun l => hcf l _) (bs_o c hc) (bs_o _ x1) kOk rfl (args := [nI k]) (cells1 rfl) norm0 (by show k ≤ ks.length; omega) (by show k + 1 + (ks.length - 1 - k) ≤ ks.length; omega) hkk h hw).mono ?_
    rintro e w' ⟨h1, h2⟩
    refine ⟨h1, ks.length - 1, by omega, by omega, nxC c kk, _, x1, ?_, h2⟩
    rw [opK_len (by show k ≤ ks.length; omega) (by show k + 1 + (ks.length - 1 - k) ≤ ks.length; omega)]
    show k + (ks.length - 1 - k) + 0 = _; omega
  | [r], _ =>
    have hr : r < 4 := Nat.le_of_ble_eq_true (x3 r (by simp))
    refine (Bas.D.opk (x := lvD ks.length k [r]) (fun l => hcf l _) (bs_o c hc) (bs_o _ x1) kOk rfl (args := [nI k]) (cells1 rfl) (fun y hy => by rw [List.mem_singleton.1 hy]; exact hr) (by show k ≤ ks.length; omega) (by show k + 1 + (ks.length - 1 - k) ≤ ks.length; omega) hkk h hw).mono ?_
    rintro e w' ⟨h1, h2⟩
    refine ⟨h1, ks.length, by omega, by omega, nxC c kk, _, x1, ?_, h2⟩
    rw [opK_len (by show k ≤ ks.length; omega) (by show k + 1 + (ks.length - 1 - k) ≤ ks.length; omega)]
    show k + (ks.length - 1 - k) + 1 = _; omega
theorem e_ready (hb : Below w0.heap.size w0 w) : Calls Tryz.prog 5 #[] w fun e w' => ∃ u, e = .returned u ∧ EN 4 w0 u w' :=
  (Bas.D.start (hcf []) (bs_o 0 (by decide)) kOk (by decide) r_h hb).mono fun e w' ⟨u, h1, h2⟩ => ⟨u, h1, 0, _, by decide, rfl, h2⟩
set_option maxRecDepth 100000 in
theorem known_calls (w : World) : Calls Tryz.prog 4 #[] w fun e w' => e = .returned (.bool true) ∧ Below w.heap.size w w' :=
  call_of (gB := symG []) (hcf [] w 4 [] [] (symG []) w.heap.size w02 w ⟨GLe.refl _, Below.refl _ _, Nat.le_refl _, rel_start (symG_one _) w⟩ .nil) k_h
theorem e_below (hw : EN m w0 u w) : Below w0.heap.size w0 w ∧ EN m w0 u w.drew := by
  obtain ⟨c, ks, hc, hl, hw⟩ := hw
  exact ⟨hw.below, c, ks, hc, hl, hw.drew⟩
end

end Go.Proofs.YteglbeihabjdiaaGreat
