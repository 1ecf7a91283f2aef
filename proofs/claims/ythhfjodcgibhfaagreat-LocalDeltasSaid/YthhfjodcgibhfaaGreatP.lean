/- The laws of chapter 18 on typed data: what they share; LocalReplies. -/
import Derived.Test.YthhfjodcgibhfaaGreatQ
import Derived.IntWalk
namespace Go.Proofs.YthhfjodcgibhfaaGreat
open Go Go.Ev
set_option maxRecDepth 100000

theorem known_true : known = some true := by kernel_rfl

theorem w64_id {n : Int} (h1 : -9223372036854775808 ≤ n) (h2 : n < 9223372036854775808) : w64 n = n := by
  unfold w64
  exact IntWalk.i64_in n (by omega)

theorem within_eq {a n : Int} (hn : 0 < n) (hm : n < 4611686018427387904) : within a n = some (a % n) := by
  unfold within
  have h0 : decide (n = 0) = false := by simp; omega
  simp only [h0, cond_false]
  have h1 := Int.emod_nonneg a (by omega : n ≠ 0)
  have h2 := Int.emod_lt_of_pos a hn
  have h3 : a.tmod n = a % n ∨ a.tmod n = a % n - n := by
    rw [Int.tmod_eq_emod]
    split
    · left; omega
    · right; omega
  congr 1
  rcases h3 with h3 | h3
  · rw [h3]
    have : decide (a % n < 0) = false := by simp; omega
    simp [this]
  · rw [h3]
    have : decide (a % n - n < 0) = true := by simp; omega
    simp only [this, cond_true]
    rw [w64_id (by omega) (by omega)]
    omega

def isT (o : Option Bool) : Bool := match o with | some true => true | _ => false
theorem isT_eq {o : Option Bool} (h : isT o = true) : o = some true := by
  unfold isT at h
  split at h
  · rfl
  · cases h

theorem ob_some {X Y : Type} (x : X) (k : X → Option Y) : ob (some x) k = k x := rfl

theorem replies_all : ((List.range 23).all fun r => isT (repliesAt 7 r)) = true := by kernel_rfl

theorem ready3_req : (match ready3 with | some s => s.req == 3 | none => false) = true := by kernel_rfl

/-- a reply that nobody waits for -/
theorem reply_other {s : State} {j : Int} {r : Reply} (hs : s.req = 3) (h0 : j ≠ 0) (h3 : j ≠ 3) : reply s j r = reply s 7 r := by
  unfold reply
  have e0 : (j == 0) = false := by simpa using h0
  have e7 : ((7 : Int) == 0) = false := by decide
  have e3 : (j != s.req) = true := by rw [hs]; simpa using h3
  have e4 : ((7 : Int) != s.req) = true := by rw [hs]; decide
  rw [e0, e7, e3, e4]

theorem repliesAt_other {j r : Int} (h0 : j ≠ 0) (h3 : j ≠ 3) : repliesAt j r = repliesAt 7 r := by
  unfold repliesAt
  cases h1 : ready with
  | none => rfl
  | some r1 =>
    simp only [ob_some]
    cases h2 : reply r1 2 (Reply.mk 0 0 (Lease.mk 0 0 0 0 [] [] [])) with
    | none => rfl
    | some r2 =>
      simp only [ob_some]
      cases h4 : begin_ r1 (Cmd.mk 4 0 0 0 0 [] []) with
      | none => rfl
      | some r3 =>
        simp only [ob_some]
        have hq : r3.1.req = 3 := by
          have := ready3_req
          simp only [ready3, h1, h4, ob_some] at this
          simpa using this
        rw [reply_other hq h0 h3]

theorem localReplies_at (i1 i2 : Int) : localReplies i1 i2 = repliesAt (cond (cond (i1 == 3) true (i1 == 0)) 7 i1) (i2 % 23) := by
  unfold localReplies
  rw [known_true, within_eq (by omega) (by omega)]
  rfl

theorem localReplies_true (i1 i2 : Int) : localReplies i1 i2 = some true := by
  rw [localReplies_at]
  have h1 := Int.emod_nonneg i2 (by omega : (23 : Int) ≠ 0)
  have h2 := Int.emod_lt_of_pos i2 (by omega : (0 : Int) < 23)
  have hj : repliesAt (cond (cond (i1 == 3) true (i1 == 0)) 7 i1) (i2 % 23) = repliesAt 7 (i2 % 23) := by
    cases h3 : i1 == 3 with
    | true => rfl
    | false =>
      cases h0 : i1 == 0 with
      | true => rfl
      | false => exact repliesAt_other (by simpa using h0) (by simpa using h3)
  rw [hj]
  have hall := List.all_eq_true.1 replies_all (i2 % 23).toNat (by simp; omega)
  have e : (((i2 % 23).toNat : Nat) : Int) = i2 % 23 := by omega
  rw [e] at hall
  exact isT_eq hall

end Go.Proofs.YthhfjodcgibhfaaGreat
