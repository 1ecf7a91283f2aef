/- LocalBegins on typed data. -/
import Derived.Test.YthhfjodcgibhfaaGreatP
namespace Go.Proofs.YthhfjodcgibhfaaGreat
open Go Go.Ev
set_option maxRecDepth 100000

/-- the states that are met: no epoch, an epoch, a lease; so many requests -/
def bK (t : Nat) (i : Int) : State :=
  let e := Coll.mk [] [] [] [] [] []
  match t with
  | 0 => State.mk 3 0 (Lease.mk 0 0 0 0 [] [] []) 0 0 0 [] (A3Coll.mk e e e) 0 2 [true, true, true] i 0 (Cmd.mk 0 0 0 0 0 [] []) false 0
  | 1 => State.mk 3 1 (Lease.mk 0 0 0 0 [] [] []) 0 0 0 [] (A3Coll.mk e e e) 0 2 [true, true, true] i 0 (Cmd.mk 0 0 0 0 0 [] []) false 0
  | _ => State.mk 3 1 (Lease.mk 3 1 0 (-1) [] [] []) 7 0 0 [] (A3Coll.mk e e e) 0 2 [true, true, true] i 0 (Cmd.mk 0 0 0 0 0 [] []) false 0

/-- is it taken? -/
def bIn (t : Nat) (e : Int) : Bool := match t with | 0 => e == 1 | 1 => e == 2 | _ => e == 4
def bNext (t : Nat) (c : Bool) : Nat := match t with | 0 => cond c 1 0 | 1 => cond c 2 1 | _ => cond c 1 2
def bT (t : Nat) (e : Int) (c : Bool) : Nat := cond (bIn t e) (bNext t c) t
def bI (t : Nat) (e : Int) (i : Nat) : Nat := cond (bIn t e) (i + 1) i

theorem at_20 {X : Type} {f g : Nat → X} (h : (List.range 20).map f = (List.range 20).map g) {k : Nat} (hk : k < 20) : f k = g k := by
  have := congrArg (fun l => l[k]?) h
  simpa [hk] using this

theorem begin_0 : localNew 3 2 [true, true, true] = some (bK 0 0, 0) := by kernel_rfl

section
variable (l1 : List Int) (l2 : List Bool) (j : Int)
theorem beg_0_1_true : (List.range 20).map (fun i => begB 1 true l1 l2 false (i : Nat) (0 == 2) j (bK 0 (i : Nat))) = (List.range 20).map (fun i => some (.inl (l1, l2, false, (bI 0 1 i : Nat), bT 0 1 true == 2, w64 (j + 1), bK (bT 0 1 true) (bI 0 1 i : Nat)))) := by kernel_rfl
theorem beg_0_1_false : (List.range 20).map (fun i => begB 1 false l1 l2 false (i : Nat) (0 == 2) j (bK 0 (i : Nat))) = (List.range 20).map (fun i => some (.inl (l1, l2, false, (bI 0 1 i : Nat), bT 0 1 false == 2, w64 (j + 1), bK (bT 0 1 false) (bI 0 1 i : Nat)))) := by kernel_rfl
theorem beg_0_2_true : (List.range 20).map (fun i => begB 2 true l1 l2 false (i : Nat) (0 == 2) j (bK 0 (i : Nat))) = (List.range 20).map (fun i => some (.inl (l1, l2, false, (bI 0 2 i : Nat), bT 0 2 true == 2, w64 (j + 1), bK (bT 0 2 true) (bI 0 2 i : Nat)))) := by kernel_rfl
theorem beg_0_2_false : (List.range 20).map (fun i => begB 2 false l1 l2 false (i : Nat) (0 == 2) j (bK 0 (i : Nat))) = (List.range 20).map (fun i => some (.inl (l1, l2, false, (bI 0 2 i : Nat), bT 0 2 false == 2, w64 (j + 1), bK (bT 0 2 false) (bI 0 2 i : Nat)))) := by kernel_rfl
theorem beg_0_4_true : (List.range 20).map (fun i => begB 4 true l1 l2 false (i : Nat) (0 == 2) j (bK 0 (i : Nat))) = (List.range 20).map (fun i => some (.inl (l1, l2, false, (bI 0 4 i : Nat), bT 0 4 true == 2, w64 (j + 1), bK (bT 0 4 true) (bI 0 4 i : Nat)))) := by kernel_rfl
theorem beg_0_4_false : (List.range 20).map (fun i => begB 4 false l1 l2 false (i : Nat) (0 == 2) j (bK 0 (i : Nat))) = (List.range 20).map (fun i => some (.inl (l1, l2, false, (bI 0 4 i : Nat), bT 0 4 false == 2, w64 (j + 1), bK (bT 0 4 false) (bI 0 4 i : Nat)))) := by kernel_rfl
theorem beg_1_1_true : (List.range 20).map (fun i => begB 1 true l1 l2 false (i : Nat) (1 == 2) j (bK 1 (i : Nat))) = (List.range 20).map (fun i => some (.inl (l1, l2, false, (bI 1 1 i : Nat), bT 1 1 true == 2, w64 (j + 1), bK (bT 1 1 true) (bI 1 1 i : Nat)))) := by kernel_rfl
theorem beg_1_1_false : (List.range 20).map (fun i => begB 1 false l1 l2 false (i : Nat) (1 == 2) j (bK 1 (i : Nat))) = (List.range 20).map (fun i => some (.inl (l1, l2, false, (bI 1 1 i : Nat), bT 1 1 false == 2, w64 (j + 1), bK (bT 1 1 false) (bI 1 1 i : Nat)))) := by kernel_rfl
theorem beg_1_2_true : (List.range 20).map (fun i => begB 2 true l1 l2 false (i : Nat) (1 == 2) j (bK 1 (i : Nat))) = (List.range 20).map (fun i => some (.inl (l1, l2, false, (bI 1 2 i : Nat), bT 1 2 true == 2, w64 (j + 1), bK (bT 1 2 true) (bI 1 2 i : Nat)))) := by kernel_rfl
theorem beg_1_2_false : (List.range 20).map (fun i => begB 2 false l1 l2 false (i : Nat) (1 == 2) j (bK 1 (i : Nat))) = (List.range 20).map (fun i => some (.inl (l1, l2, false, (bI 1 2 i : Nat), bT 1 2 false == 2, w64 (j + 1), bK (bT 1 2 false) (bI 1 2 i : Nat)))) := by kernel_rfl
theorem beg_1_4_true : (List.range 20).map (fun i => begB 4 true l1 l2 false (i : Nat) (1 == 2) j (bK 1 (i : Nat))) = (List.range 20).map (fun i => some (.inl (l1, l2, false, (bI 1 4 i : Nat), bT 1 4 true == 2, w64 (j + 1), bK (bT 1 4 true) (bI 1 4 i : Nat)))) := by kernel_rfl
theorem beg_1_4_false : (List.range 20).map (fun i => begB 4 false l1 l2 false (i : Nat) (1 == 2) j (bK 1 (i : Nat))) = (List.range 20).map (fun i => some (.inl (l1, l2, false, (bI 1 4 i : Nat), bT 1 4 false == 2, w64 (j + 1), bK (bT 1 4 false) (bI 1 4 i : Nat)))) := by kernel_rfl
theorem beg_2_1_true : (List.range 20).map (fun i => begB 1 true l1 l2 false (i : Nat) (2 == 2) j (bK 2 (i : Nat))) = (List.range 20).map (fun i => some (.inl (l1, l2, false, (bI 2 1 i : Nat), bT 2 1 true == 2, w64 (j + 1), bK (bT 2 1 true) (bI 2 1 i : Nat)))) := by kernel_rfl
theorem beg_2_1_false : (List.range 20).map (fun i => begB 1 false l1 l2 false (i : Nat) (2 == 2) j (bK 2 (i : Nat))) = (List.range 20).map (fun i => some (.inl (l1, l2, false, (bI 2 1 i : Nat), bT 2 1 false == 2, w64 (j + 1), bK (bT 2 1 false) (bI 2 1 i : Nat)))) := by kernel_rfl
theorem beg_2_2_true : (List.range 20).map (fun i => begB 2 true l1 l2 false (i : Nat) (2 == 2) j (bK 2 (i : Nat))) = (List.range 20).map (fun i => some (.inl (l1, l2, false, (bI 2 2 i : Nat), bT 2 2 true == 2, w64 (j + 1), bK (bT 2 2 true) (bI 2 2 i : Nat)))) := by kernel_rfl
theorem beg_2_2_false : (List.range 20).map (fun i => begB 2 false l1 l2 false (i : Nat) (2 == 2) j (bK 2 (i : Nat))) = (List.range 20).map (fun i => some (.inl (l1, l2, false, (bI 2 2 i : Nat), bT 2 2 false == 2, w64 (j + 1), bK (bT 2 2 false) (bI 2 2 i : Nat)))) := by kernel_rfl
theorem beg_2_4_true : (List.range 20).map (fun i => begB 4 true l1 l2 false (i : Nat) (2 == 2) j (bK 2 (i : Nat))) = (List.range 20).map (fun i => some (.inl (l1, l2, false, (bI 2 4 i : Nat), bT 2 4 true == 2, w64 (j + 1), bK (bT 2 4 true) (bI 2 4 i : Nat)))) := by kernel_rfl
theorem beg_2_4_false : (List.range 20).map (fun i => begB 4 false l1 l2 false (i : Nat) (2 == 2) j (bK 2 (i : Nat))) = (List.range 20).map (fun i => some (.inl (l1, l2, false, (bI 2 4 i : Nat), bT 2 4 false == 2, w64 (j + 1), bK (bT 2 4 false) (bI 2 4 i : Nat)))) := by kernel_rfl
end

theorem beg_next (l1 : List Int) (l2 : List Bool) (j : Int) {t i : Nat} {e : Int} (c : Bool) (ht : t < 3) (he : e = 1 ∨ e = 2 ∨ e = 4) (hi : i < 20) :
    begB e c l1 l2 false i (t == 2) j (bK t i) = some (.inl (l1, l2, false, (bI t e i : Nat), bT t e c == 2, w64 (j + 1), bK (bT t e c) (bI t e i : Nat))) := by
  have h3 : t = 0 ∨ t = 1 ∨ t = 2 := by omega
  rcases h3 with rfl | rfl | rfl <;> rcases he with rfl | rfl | rfl <;> cases c
  · exact at_20 (beg_0_1_false l1 l2 j) hi
  · exact at_20 (beg_0_1_true l1 l2 j) hi
  · exact at_20 (beg_0_2_false l1 l2 j) hi
  · exact at_20 (beg_0_2_true l1 l2 j) hi
  · exact at_20 (beg_0_4_false l1 l2 j) hi
  · exact at_20 (beg_0_4_true l1 l2 j) hi
  · exact at_20 (beg_1_1_false l1 l2 j) hi
  · exact at_20 (beg_1_1_true l1 l2 j) hi
  · exact at_20 (beg_1_2_false l1 l2 j) hi
  · exact at_20 (beg_1_2_true l1 l2 j) hi
  · exact at_20 (beg_1_4_false l1 l2 j) hi
  · exact at_20 (beg_1_4_true l1 l2 j) hi
  · exact at_20 (beg_2_1_false l1 l2 j) hi
  · exact at_20 (beg_2_1_true l1 l2 j) hi
  · exact at_20 (beg_2_2_false l1 l2 j) hi
  · exact at_20 (beg_2_2_true l1 l2 j) hi
  · exact at_20 (beg_2_4_false l1 l2 j) hi
  · exact at_20 (beg_2_4_true l1 l2 j) hi

theorem bT_lt {t : Nat} {e : Int} {c : Bool} (ht : t < 3) : bT t e c < 3 := by
  have h3 : t = 0 ∨ t = 1 ∨ t = 2 := by omega
  unfold bT
  cases bIn t e with
  | false => exact ht
  | true => rcases h3 with rfl | rfl | rfl <;> cases c <;> simp [bNext]

theorem bI_le (t : Nat) (e : Int) (i : Nat) : bI t e i ≤ i + 1 := by
  unfold bI; cases bIn t e <;> simp

def bit (l2 : List Bool) (j : Nat) : Bool := match l2[j]? with | some c => c | none => true

theorem beg_step (l1 : List Int) (l2 : List Bool) (i1 : Int) (b2 : Bool) {j : Nat} (s1 : State) (hj : j < l1.length) (h20 : j < 20) :
    ∃ e : Int, (e = 1 ∨ e = 2 ∨ e = 4) ∧ step_L4_6 l1 l2 false i1 b2 j s1 = begB e (bit l2 j) l1 l2 false i1 b2 j s1 := by
  have m1 := Int.emod_nonneg l1[j] (by omega : (3 : Int) ≠ 0)
  have m2 := Int.emod_lt_of_pos l1[j] (by omega : (0 : Int) < 3)
  have e1 : decide ((j : Int) < (l1.length : Int)) = true := by simp; omega
  have e2 : decide ((j : Int) < 20) = true := by simp; omega
  have e3 : decide (0 ≤ (j : Int)) = true := by simp
  have e4 : l1[(j : Int).toNat]? = some l1[j] := by simp [hj]
  have e5 : within l1[j] 3 = some (l1[j] % 3) := within_eq (by omega) (by omega)
  have hq : l1[j] % 3 = 0 ∨ l1[j] % 3 = 1 ∨ l1[j] % 3 = 2 := by omega
  have fin : ∀ e : Int, (∀ q : Int, l1[j] % 3 = q → ([1, 2, 4] : List Int)[q.toNat]? = some e ∧ decide (0 ≤ q) = true ∧ decide (q < (([1, 2, 4] : List Nat).length : Int)) = true) →
      step_L4_6 l1 l2 false i1 b2 j s1 = begB e (bit l2 j) l1 l2 false i1 b2 j s1 := by
    intro e h
    obtain ⟨h1, h2, h3⟩ := h _ rfl
    unfold step_L4_6
    rw [e1, e2, e3]
    simp only [cond_true, e4, ob_some, e5, h2]
    rw [h3, h1]
    simp only [cond_true, ob_some]
    cases hb : l2[j]? with
    | none =>
      have hl : l2.length ≤ j := by simpa using hb
      have e6 : decide ((j : Int) ≥ (l2.length : Int)) = true := by simp; omega
      have e7 : bit l2 j = true := by simp [bit, hb]
      rw [e6, e7]
      rfl
    | some c =>
      have hl : j < l2.length := (List.getElem?_eq_some_iff.1 hb).1
      have e6 : decide ((j : Int) ≥ (l2.length : Int)) = false := by simp; omega
      have e7 : bit l2 j = c := by simp [bit, hb]
      have e8 : l2[(j : Int).toNat]? = some c := by simpa using hb
      rw [e6, e7, e8]
      rfl
  rcases hq with hq | hq | hq
  · exact ⟨1, by simp, fin 1 fun q h => by rw [hq] at h; subst h; exact ⟨rfl, rfl, rfl⟩⟩
  · exact ⟨2, by simp, fin 2 fun q h => by rw [hq] at h; subst h; exact ⟨rfl, rfl, rfl⟩⟩
  · exact ⟨4, by simp, fin 4 fun q h => by rw [hq] at h; subst h; exact ⟨rfl, rfl, rfl⟩⟩

theorem begins_loop (l1 : List Int) (l2 : List Bool) : ∀ (d j t i fuel : Nat), j + d = 20 → t < 3 → i ≤ j → l1.length - j + 1 ≤ fuel →
    ∃ s, iterO stp_L4_6 fuel (l1, l2, false, (i : Int), t == 2, (j : Int), bK t i) = some (.inl (false, s)) := by
  intro d
  induction d with
  | zero =>
    intro j t i fuel hj ht hi hf
    obtain ⟨f, rfl⟩ : ∃ f, fuel = f + 1 := ⟨fuel - 1, by omega⟩
    refine ⟨bK t i, ?_⟩
    have e : decide ((j : Int) < 20) = false := by simp; omega
    have hs : stp_L4_6 (l1, l2, false, (i : Int), t == 2, (j : Int), bK t i) = some (.inr (.inl (false, bK t i))) := by
      simp only [stp_L4_6, step_L4_6, e]
      cases decide ((j : Int) < (l1.length : Int)) <;> rfl
    rw [iterO, hs]; rfl
  | succ d ih =>
    intro j t i fuel hj ht hi hf
    obtain ⟨f, rfl⟩ : ∃ f, fuel = f + 1 := ⟨fuel - 1, by omega⟩
    by_cases hjl : j < l1.length
    · obtain ⟨e, he, hs⟩ := beg_step l1 l2 (i : Int) (t == 2) (j := j) (bK t i) hjl (by omega)
      have hs2 : stp_L4_6 (l1, l2, false, (i : Int), t == 2, (j : Int), bK t i) = step_L4_6 l1 l2 false (i : Int) (t == 2) (j : Int) (bK t i) := rfl
      have hb := beg_next l1 l2 (j : Int) (bit l2 j) ht he (i := i) (by omega)
      have hj1 : w64 ((j : Int) + 1) = ((j + 1 : Nat) : Int) := by rw [w64_id (by omega) (by omega)]; omega
      rw [hj1] at hb
      have hle := bI_le t e i
      obtain ⟨s, h⟩ := ih (j + 1) (bT t e (bit l2 j)) (bI t e i) f (by omega) (bT_lt ht) (by omega) (by omega)
      refine ⟨s, ?_⟩
      rw [iterO, hs2, hs, hb]
      exact h
    · refine ⟨bK t i, ?_⟩
      have e : decide ((j : Int) < (l1.length : Int)) = false := by simp; omega
      have hs : stp_L4_6 (l1, l2, false, (i : Int), t == 2, (j : Int), bK t i) = some (.inr (.inl (false, bK t i))) := by
        simp only [stp_L4_6, step_L4_6, e]
        rfl
      rw [iterO, hs]; rfl

theorem localBegins_true (l1 : List Int) (l2 : List Bool) : localBegins l1 l2 = some true := by
  unfold localBegins
  rw [known_true]
  simp only [ob_some, Bool.not_true, cond_false]
  rw [begin_0]
  simp only [ob_some]
  obtain ⟨s, h⟩ := begins_loop l1 l2 20 0 0 0 (((l1.length : Int) - 0).toNat + 2) (by omega) (by omega) (by omega) (by omega)
  have h' : L4_6 l1 l2 false 0 false 0 (bK 0 0) = some (.inl (false, s)) := h
  rw [h']
  rfl

end Go.Proofs.YthhfjodcgibhfaaGreat
