/- The law EdgeNext: its known calls, its stages. -/
import Derived.Test.YtkglhjcbdomaaaaGreatRows
import Derived.Test.YtkglhjcbdomaaaaGreatXc
import Derived.Tactics2
import Derived.WalkArith
namespace Go.Proofs.YtkglhjcbdomaaaaGreat
open Go Go.Cx Go.RowKit

theorem mixed : Tryz.prog.follows .mixedOrders = true := by kernel_rfl
theorem noNum : NoNum Tryz.prog := by
  intro f fn hf hb
  have : (Tryz.prog.funcs.toList.all fun fn => !(fn.body.isSome && fn.name == "runtime.NumGoroutine")) = true := by kernel_rfl
  rw [List.all_eq_true] at this
  have := this fn (Array.mem_toList_iff.2 (Array.mem_of_getElem? hf))
  simpa [hb] using this

theorem tmod_pos {x n : Int} (h : 0 < n) (ht : 0 ≤ x.tmod n) : x.tmod n = x % n := by
  have h1 := Int.tmod_add_mul_tdiv x n
  have h2 : x.tmod n < n := Int.tmod_lt_of_pos x h
  have h3 : x % n = (x.tmod n + n * x.tdiv n) % n := by rw [h1]
  rw [Int.add_mul_emod_self_left, Int.emod_eq_of_lt ht h2] at h3
  exact h3.symm
theorem tmod_neg {x n : Int} (h : 0 < n) (ht : x.tmod n < 0) : x.tmod n + n = x % n ∧ 0 ≤ x.tmod n + n ∧ x.tmod n + n < n := by
  have h1 := Int.tmod_add_mul_tdiv x n
  have h2 : -n < x.tmod n := Int.lt_tmod_of_pos x h
  have h3 : x % n = (x.tmod n + n * x.tdiv n) % n := by rw [h1]
  rw [Int.add_mul_emod_self_left] at h3
  have h4 : (x.tmod n + n) % n = x.tmod n + n := Int.emod_eq_of_lt (by omega) (by omega)
  rw [Int.add_emod_right] at h4
  exact ⟨by rw [h3, h4], by omega, by omega⟩

set_option maxHeartbeats 400000 in
theorem within_calls (x n : Int) (hn : 0 < n) (hn2 : n < 9223372036854775808) (w : World) : Calls Tryz.prog 5 #[.int .i64 x, .int .i64 n] w fun e w' => e = .returned (.int .i64 (x % n)) ∧ w' = w := by
  have hn0 : n ≠ 0 := by omega
  go_enter Tryz.func5, Tryz.ntmps5
  go_wp2
  all_goals go_ret
  · rename_i h
    obtain ⟨h1, h2, h3⟩ := tmod_neg hn h
    rw [h1] at h2 h3
    refine ⟨?_, rfl⟩
    rw [h1]
    have : wrap64 (x % n) = x % n := by unfold wrap64; omega
    simp [this]
  · rename_i h
    refine ⟨?_, rfl⟩
    simp [tmod_pos hn h]

set_option maxRecDepth 1000000 in
/-- the chapter's example -/
theorem known_calls (w : World) : Calls Tryz.prog 4 #[] w fun e w' => e = .returned (.bool true) ∧ Below w.heap.size w w' := by
  have h : isB true (evFn Tryz.prog 100000 100 4 [] w02) = true := by kernel_rfl
  exact call_of (gB := symG []) (evFn_ok noNum mixed 100000 100 4 [] [] (symG []) w.heap.size w02 w ⟨GLe.refl _, Below.refl _ _, Nat.le_refl _, rel_start (symG_one []) w⟩ .nil) h

/-- what is known of calls: of the example; of numbers that are taken within bounds (k: a symbol, m: the bound, v: the number) -/
noncomputable def orc (k m : Nat) (v : Value) : FuncId → List Value → Option Value := fun f args =>
  Bool.rec (motive := fun _ => Option Value) (Bool.rec (motive := fun _ => Option Value) none (match args with | [] => some (.bool true) | _ => none) (Nat.beq f 4))
    (match args with
      | [.complex .f32 i 2, .int .i64 (.ofNat n)] => Bool.rec (motive := fun _ => Option Value) none (Bool.rec (motive := fun _ => Option Value) none (some v) (Nat.beq n m)) (Nat.beq i k)
      | _ => none) (Nat.beq f 5)

theorem orc_ok {l : List Value} {wB : World} {k m : Nat} {v : Value} {x : Int} (hx : l[k]? = some (.int .i64 x)) (hm : 0 < m) (hm2 : m < 1000000) (hv : ∀ g, GLe (symG l) g → RV g v (.int .i64 (x % m))) : OrcOk Tryz.prog (symG l) wB (orc k m v) := by
  intro f args args' u h g w hg _ ha
  unfold orc at h
  cases h5 : Nat.beq f 5 with
  | true =>
    have := Nat.eq_of_beq_eq_true h5
    subst this
    rw [h5] at h
    dsimp only at h
    split at h
    · rename_i i n
      cases hi : Nat.beq i k with
      | false => rw [hi] at h; cases h
      | true =>
        cases hn : Nat.beq n m with
        | false => rw [hi, hn] at h; cases h
        | true =>
          rw [hi, hn] at h
          cases h
          have := Nat.eq_of_beq_eq_true hi
          subst this
          have := Nat.eq_of_beq_eq_true hn
          subst this
          cases ha with
          | cons h1 ha =>
            cases ha with
            | cons h2 ha =>
              cases ha
              have e1 := sym_inv hg hx h1
              have e2 := h2.int
              subst e1; subst e2
              refine (within_calls x n (by omega) (by omega) w).mono ?_
              rintro e w' ⟨rfl, rfl⟩
              exact ⟨Below.refl _ _, _, rfl, hv g hg⟩
    · cases h
  | false =>
    rw [h5] at h
    cases h4 : Nat.beq f 4 with
    | false => rw [h4] at h; cases h
    | true =>
      rw [h4] at h
      have := Nat.eq_of_beq_eq_true h4
      subst this
      cases args with
      | cons _ _ => cases h
      | nil =>
        cases h
        cases ha
        refine (known_calls w).mono ?_
        rintro e w' ⟨rfl, hb⟩
        exact ⟨hb, _, rfl, RV.self rfl⟩

end Go.Proofs.YtkglhjcbdomaaaaGreat
