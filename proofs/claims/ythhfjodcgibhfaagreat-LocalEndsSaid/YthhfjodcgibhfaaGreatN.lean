/- LocalEnds on typed data. -/
import Derived.Test.YthhfjodcgibhfaaGreatP
namespace Go.Proofs.YthhfjodcgibhfaaGreat
open Go Go.Ev
set_option maxRecDepth 100000

def c0 : Coll := Coll.mk [] [] [] [] [] []
def stA (k : Int) : State := State.mk 1 1 (Lease.mk 0 0 0 0 [] [] []) 0 0 0 [] (A3Coll.mk c0 c0 c0) 0 3 [true, true, true] 2 5 (Cmd.mk 2 1 1 2 (1 + k) [] []) false 5
def stB (k n : Int) : State := State.mk 1 1 (Lease.mk 1 1 0 (-1) [Slice.mk s_a 9 0 0 0] [] []) (5 + (1 + k)) 0 0 [] (A3Coll.mk c0 c0 c0) 0 3 [true, true, true] 2 5 (Cmd.mk 0 0 0 0 0 [] []) false n
def opE : Op := Op.mk (Dot.mk 0 0 0) 0 0 4 s_a s_empty 1 0 []
def code (o : Option (State × Int)) : Option Int := match o with | some r => some r.2 | none => none
def is0 (o : Option Int) : Bool := match o with | some r => r == 0 | none => false

theorem A_all : (List.range 60).map (fun k => preEnds (k : Nat)) = (List.range 60).map (fun k => some (stA (k : Nat), 0)) := by kernel_rfl
theorem A_time (m : Int) : (List.range 60).map (fun k => timeAt (stA (k : Nat)) m) = (List.range 60).map (fun k => some (setNow (stA (k : Nat)) (w64 (5 + m)), 0)) := by kernel_rfl
theorem B_all (n : Int) : (List.range 60).map (fun k => repEnds (setNow (stA (k : Nat)) n)) = (List.range 60).map (fun k => some (stB (k : Nat) n, 0)) := by kernel_rfl
theorem B_time (n m : Int) : (List.range 60).map (fun k => timeAt (stB (k : Nat) n) m) = (List.range 60).map (fun k => some (stB (k : Nat) (w64 (n + m)), 0)) := by kernel_rfl
theorem do_at (n : Int) : (List.range 60).map (fun k => do_ (stB (k : Nat) n) opE) = (List.range 60).map (fun k => ob (opsCheck (Op.mk (Dot.mk 1 1 1) 0 3 4 s_a s_empty 1 n [])) fun r => doC (stB (k : Nat) n) opE (decide (n ≥ 5 + (1 + (k : Int)))) r) := by kernel_rfl
theorem do_late (n : Int) : (List.range 60).map (fun k => code (doC (stB (k : Nat) n) opE true 0)) = (List.range 60).map (fun _ => some 15) := by kernel_rfl
theorem do_fine (n : Int) : (List.range 60).map (fun k => code (doC (stB (k : Nat) n) opE false 0)) = (List.range 60).map (fun _ => some 0) := by kernel_rfl
theorem chk_all : ((List.range 104).all fun n => is0 (opsCheck (Op.mk (Dot.mk 1 1 1) 0 3 4 s_a s_empty 1 (n : Nat) []))) = true := by kernel_rfl

theorem ob_assoc {X Y Z : Type} (o : Option X) (f : X → Option Y) (g : Y → Option Z) : ob (ob o f) g = ob o fun x => ob (f x) g := by cases o <;> rfl

theorem at_k {X : Type} {f g : Nat → X} (h : (List.range 60).map f = (List.range 60).map g) {k : Nat} (hk : k < 60) : f k = g k := by
  have := congrArg (fun l => l[k]?) h
  simpa [hk] using this

theorem time_at {s : State} {r : Int} (h0 : 0 ≤ r) (h1 : r ≤ 100) (h2 : 0 ≤ s.now) (h3 : s.now ≤ 1000) : time s r = timeAt s r := by
  unfold time timeAt
  have e1 : decide (r < 0) = false := by simp; omega
  have e2 : decide (r > 100) = false := by simp; omega
  have e3 : decide (w64 (s.now + r) > 1099511627776) = false := by rw [w64_id (by omega) (by omega)]; simp; omega
  rw [e1, e2, e3]
  rfl

theorem localEnds_true (i1 i2 i3 : Int) : localEnds i1 i2 i3 = some true := by
  have a1 := Int.emod_nonneg i1 (by omega : (60 : Int) ≠ 0)
  have a2 := Int.emod_lt_of_pos i1 (by omega : (0 : Int) < 60)
  have b1 := Int.emod_nonneg i2 (by omega : (50 : Int) ≠ 0)
  have b2 := Int.emod_lt_of_pos i2 (by omega : (0 : Int) < 50)
  have c1 := Int.emod_nonneg i3 (by omega : (50 : Int) ≠ 0)
  have c2 := Int.emod_lt_of_pos i3 (by omega : (0 : Int) < 50)
  obtain ⟨k, hk⟩ : ∃ k : Nat, i1 % 60 = k := ⟨(i1 % 60).toNat, by omega⟩
  obtain ⟨u, hu⟩ : ∃ u : Nat, i2 % 50 = u := ⟨(i2 % 50).toNat, by omega⟩
  obtain ⟨v, hv⟩ : ∃ v : Nat, i3 % 50 = v := ⟨(i3 % 50).toNat, by omega⟩
  have hk60 : k < 60 := by omega
  have hf : localEnds i1 i2 i3 = ob (preEnds k) fun r8 => ob (time r8.1 u) fun r9 => ob (repEnds r9.1) fun r10 => ob (time r10.1 v) fun r11 => ob (do_ r11.1 opE) fun r12 =>
      some (cond (r8.2 == 0) (cond (r10.2 == 0) (cond (r11.1.ends == (w64 (5 + (w64 (1 + (k : Int)))))) (r12.2 == (cond (decide ((w64 ((u : Int) + v)) ≥ (w64 (1 + (k : Int))))) 15 0)) false) false) false) := by
    unfold localEnds
    rw [known_true, within_eq (by omega) (by omega), within_eq (by omega) (by omega), within_eq (by omega) (by omega), hk, hu, hv]
    simp only [ob_some, Bool.not_true, cond_false]
    unfold preEnds
    simp only [ob_assoc, ob_some]
    rfl
  rw [hf, at_k A_all hk60]
  simp only [ob_some]
  rw [time_at (by omega) (by omega) (by simp [stA]) (by simp [stA]), at_k (A_time u) hk60]
  simp only [ob_some]
  rw [w64_id (n := 5 + (u : Int)) (by omega) (by omega), at_k (B_all (5 + u)) hk60]
  simp only [ob_some]
  rw [time_at (by omega) (by omega) (by simp [stB]; omega) (by simp [stB]; omega), at_k (B_time (5 + u) v) hk60]
  simp only [ob_some]
  rw [w64_id (n := 5 + (u : Int) + v) (by omega) (by omega)]
  obtain ⟨n, hn⟩ : ∃ n : Nat, (n : Int) = 5 + u + v := ⟨5 + u + v, by omega⟩
  rw [← hn, at_k (do_at n) hk60]
  have hc := List.all_eq_true.1 chk_all n (by simp; omega)
  have hc2 : opsCheck (Op.mk (Dot.mk 1 1 1) 0 3 4 s_a s_empty 1 (n : Int) []) = some 0 := by
    cases ho : opsCheck (Op.mk (Dot.mk 1 1 1) 0 3 4 s_a s_empty 1 (n : Int) []) with
    | none => rw [ho] at hc; cases hc
    | some r => rw [ho] at hc; simp only [is0, beq_iff_eq] at hc; rw [hc]
  rw [hc2]
  simp only [ob_some]
  rw [w64_id (n := 1 + (k : Int)) (by omega) (by omega), w64_id (n := 5 + (1 + (k : Int))) (by omega) (by omega), w64_id (n := (u : Int) + v) (by omega) (by omega)]
  have fin : ∀ {o : Option (State × Int)} {c : Int}, code o = some c → ob o (fun r12 => some (cond ((0 : Int) == 0) (cond ((0 : Int) == 0) (cond ((stB (k : Int) n).ends == (5 + (1 + (k : Int)))) (r12.2 == c) false) false) false)) = some true := by
    intro o c ho
    cases o with
    | none => cases ho
    | some r =>
      simp only [code, Option.some.injEq] at ho
      subst ho
      simp [stB]
  rcases Decidable.em ((u : Int) + v ≥ 1 + (k : Int)) with h | h
  · have e1 : decide ((n : Int) ≥ 5 + (1 + (k : Int))) = true := by simp; omega
    have e2 : decide ((u : Int) + v ≥ 1 + (k : Int)) = true := by simpa using h
    rw [e1, e2]
    exact fin (at_k (do_late n) hk60)
  · have e1 : decide ((n : Int) ≥ 5 + (1 + (k : Int))) = false := by simp; omega
    have e2 : decide ((u : Int) + v ≥ 1 + (k : Int)) = false := by simpa using h
    rw [e1, e2]
    exact fin (at_k (do_fine n) hk60)

end Go.Proofs.YthhfjodcgibhfaaGreat
