/- The law WorldTwice: calls ahead of the first message. -/
import Derived.Test.YtaceajadklmddaaGreatY0
import Derived.Test.YtaceajadklmddaaGreatXk
import Derived.Tactics2
import Derived.WalkArith
namespace Go.Proofs.YtaceajadklmddaaGreat
open Go Go.Cx Go.RowKit

theorem tmod_pos {x n : Int} (h : 0 < n) (ht : 0 ≤ x.tmod n) : x.tmod n = x % n := by
  have h1 := Int.tmod_add_mul_tdiv x n
  have h2 : x.tmod n < n := Int.tmod_lt_of_pos x h
  have h3 : x % n = (x.tmod n + n * x.tdiv n) % n := by rw [h1]
  rw [Int.add_mul_emod_self_left, Int.emod_eq_of_lt ht h2] at h3
  exact h3.symm
theorem tmod_neg {x n : Int} (h : 0 < n) (ht : x.tmod n < 0) : x.tmod n + n = x % n ∧ 0 ≤ x.tmod n + n ∧ x.tmod n + n < n := by
  have h1 := Int.tmod_add_mul_tdiv x n
  have h2 : -n < x.tmod n := Int.lt_tmod_of_pos x h
  have h3 : x % n = (x.tmod n + n * x.tdiv n) % n := by rw [h1]
  rw [Int.add_mul_emod_self_left] at h3
  have h5 : (x.tmod n + n) % n = x.tmod n + n := Int.emod_eq_of_lt (by omega) (by omega)
  rw [Int.add_emod_right] at h5
  exact ⟨by rw [h3, h5], by omega, by omega⟩

set_option maxHeartbeats 400000 in
theorem within_calls (x n : Int) (hn : 0 < n) (hn2 : n < 9223372036854775808) (w : World) : Calls Tryz.prog 6 #[.int .i64 x, .int .i64 n] w fun e w' => e = .returned (.int .i64 (x % n)) ∧ w' = w := by
  have hn0 : n ≠ 0 := by omega
  go_enter Tryz.func6, Tryz.ntmps6
  go_wp2
  all_goals go_ret
  · rename_i h
    obtain ⟨h1, h2, h3⟩ := tmod_neg hn h
    rw [h1] at h2 h3
    refine ⟨?_, rfl⟩
    rw [h1]
    have : wrap64 (x % n) = x % n := by unfold wrap64; omega
    simp [this]
  · rename_i h
    refine ⟨?_, rfl⟩
    simp [tmod_pos hn h]

def peD : Nat → Nat := fun j => match j with | 0 => 22 | 1 => 22 | 2 => 22 | 3 => 22 | _ => 0
noncomputable def DS (j : Nat) (w0 : World) (u : Value) (w : World) : Prop := match j with | 0 => AtV R0 w0 [pw] [u] w | 1 => AtV D1 w0 [pw] [u] w | 2 => AtV D2 w0 [pw] [u] w | 3 => AtV D3 w0 [pw] [u] w | 4 => AtV D4 w0 [pw] [u] w | _ => False
noncomputable def ES (j : Nat) (w0 : World) (u m : Value) (w : World) : Prop := match j with | 0 => AtV R0 w0 [pw, pa 22] [u, m] w | 1 => AtV D1 w0 [pw, pa 22] [u, m] w | 2 => AtV D2 w0 [pw, pa 22] [u, m] w | 3 => AtV D3 w0 [pw, pa 22] [u, m] w | _ => False
theorem op_self (g : Gh) : All2 (RV g) [opT] [opT] := .cons (.one (.agg (All2.refl fun a ha => .base (.same (by
  have : ∀ a ∈ ([.int .i64 (.ofNat 0), .int .i64 (.ofNat 0), .int .i64 (.ofNat 0), .int .i64 (.ofNat 0), .int .i64 (.ofNat 0), .int .i64 (.ofNat 2), .string ⟨⟨[107]⟩⟩, .string ⟨⟨[116]⟩⟩, .int .i64 (.ofNat 0), .int .i64 (.ofNat 0), .slice none 0 0] : List Value), cellV a = true := by
    intro a ha
    simp only [List.mem_cons, List.not_mem_nil, or_false] at ha
    rcases ha with rfl | rfl | rfl | rfl | rfl | rfl | rfl | rfl | rfl | rfl | rfl <;> rfl
  exact this a ha))))) .nil
theorem edge_c (j : Nat) (w0 : World) (u : Value) (w : World) (h : DS j w0 u w) (hj : j < 4) : Calls Tryz.prog 7 #[u, .int .i64 0] w fun e w' => ∃ m, e = .returned m ∧ ES j w0 u m w' := match j, hj, h with
  | 0, _, h => call1 ed0 rfl h
  | 1, _, h => call1 ed1 rfl h
  | 2, _, h => call1 ed2 rfl h
  | 3, _, h => call1 ed3 rfl h
  | j + 4, h, _ => absurd h (by omega)
theorem callMv {f x j y : Nat} {l : List Value} {v : Value} (h : eqM f x j l v y = true) (hl : ∀ g, All2 (RV g) l l) (hf : free v = true) {w0 w : World} {u m : Value} (hw : AtV x w0 [pw, pa j] [u, m] w) : Calls Tryz.prog f ⟨m :: l⟩ w fun e w' => e = .returned v ∧ AtV y w0 [pw] [u] w' := by
  refine (callM h hl hw).mono ?_
  rintro e w' ⟨v', rfl, hv⟩
  have := hv.third.val hf
  subst this
  exact ⟨rfl, hv.third.fst⟩
theorem do_c (j : Nat) (w0 : World) (u m : Value) (w : World) (h : ES j w0 u m w) (hj : j < 4) : Calls Tryz.prog 8 #[m, opT] w fun e w' => e = .returned (.int .i64 0) ∧ DS (j + 1) w0 u w' := match j, hj, h with
  | 0, _, h => callMv do0 op_self rfl h
  | 1, _, h => callMv do1 op_self rfl h
  | 2, _, h => callMv do2 op_self rfl h
  | 3, _, h => callMv do3 op_self rfl h
  | j + 4, h, _ => absurd h (by omega)
theorem call1v {f x y : Nat} {k v : Value} (h : eq1 f x k v y = true) (hk : cellV k = true) (hf : free v = true) {w0 w : World} {u : Value} (hw : AtV x w0 [pw] [u] w) : Calls Tryz.prog f ⟨[u, k]⟩ w fun e w' => e = .returned v ∧ AtV y w0 [pw] [u] w' := by
  refine (call1 h hk hw).mono ?_
  rintro e w' ⟨v', rfl, hv⟩
  have := hv.val hf
  subst this
  exact ⟨rfl, hv.fst⟩
theorem call2v {f x y : Nat} {k m v : Value} (h : eq2 f x k m v y = true) (hk : cellV k = true) (hm : cellV m = true) (hf : free v = true) {w0 w : World} {u : Value} (hw : AtV x w0 [pw] [u] w) : Calls Tryz.prog f ⟨[u, k, m]⟩ w fun e w' => e = .returned v ∧ AtV y w0 [pw] [u] w' := by
  refine (call2 h hk hm hw).mono ?_
  rintro e w' ⟨v', rfl, hv⟩
  have := hv.val hf
  subst this
  exact ⟨rfl, hv.fst⟩
/-- a Deliver, and where it leads -/
theorem goes {x y k : Nat} (h : dB x k y = true) {S : Nat → World → Value → World → Prop} {K t m : Nat} {mu : Nat → Nat} {w0 w : World} {u : Value} (hw : AtV x w0 [pw] [u] w) (h1 : t < K) (h2 : mu t < m) (hS : ∀ w', AtV y w0 [pw] [u] w' → S t w0 u w') :
    Calls Tryz.prog 11 #[u, .int .i64 (k : Int)] w fun e w' => e = .returned (.bool true) ∧ ∃ t, t < K ∧ mu t < m ∧ S t w0 u w' := by
  refine (call1v (f := 11) (k := numV k) (v := .bool true) h rfl rfl hw).mono ?_
  rintro e w' ⟨rfl, hv⟩
  exact ⟨rfl, t, h1, h2, hS w' hv⟩
/-- whatever is delivered in the world x, of b messages, leads on -/
def On (S : Nat → World → Value → World → Prop) (mu : Nat → Nat) (x b m : Nat) : Prop := ∀ (k : Nat) (w0 : World) (u : Value) (w : World), AtV x w0 [pw] [u] w → k < b → Calls Tryz.prog 11 #[u, .int .i64 (k : Int)] w fun e w' => e = .returned (.bool true) ∧ ∃ t, t < 83 ∧ mu t < m ∧ S t w0 u w'

end Go.Proofs.YtaceajadklmddaaGreat
