/- DeskTimes on typed data. -/
import Derived.Test.YtcjpeijiaojeiaaGreatR
namespace Go.Proofs.YtcjpeijiaojeiaaGreat
open Go Go.Ev
set_option maxRecDepth 100000

/-- the new desk, at a time -/
def atB (t : Int) : Desk := match l13Begin with
  | some d => Desk.mk d.book d.colls d.log d.dev d.lost t
  | none => Desk.mk (Book.mk [] [] [] []) (A3Coll.mk (Coll.mk [] [] [] [] [] []) (Coll.mk [] [] [] [] [] []) (Coll.mk [] [] [] [] [] [])) [] (A6Device.mk (Device.mk 0 0 (Reply.mk 0 0 (Lease.mk 0 0 0 0 [] [] []))) (Device.mk 0 0 (Reply.mk 0 0 (Lease.mk 0 0 0 0 [] [] []))) (Device.mk 0 0 (Reply.mk 0 0 (Lease.mk 0 0 0 0 [] [] []))) (Device.mk 0 0 (Reply.mk 0 0 (Lease.mk 0 0 0 0 [] [] []))) (Device.mk 0 0 (Reply.mk 0 0 (Lease.mk 0 0 0 0 [] [] []))) (Device.mk 0 0 (Reply.mk 0 0 (Lease.mk 0 0 0 0 [] [] [])))) [] t
def noR (e : Int) : Reply := Reply.mk e 0 (Lease.mk 0 0 0 0 [] [] [])
abbrev timeC (n : Int) : Cmd := Cmd.mk 7 0 0 0 n [] []

theorem begin_at : l13Begin = some (atB 0) := by kernel_rfl
theorem own_at (t : Int) : deskOwn (atB t) = some (atB t) := by kernel_rfl
theorem same_at (t : Int) : dSame (atB t) (atB t) = some (t == t) := by kernel_rfl
theorem now_at (t : Int) : (atB t).now = t := by kernel_rfl

theorem work_time (d : Desk) (n : Int) : clerkWork (Clerk.mk d (timeC n)) = ob (clerkTime (Clerk.mk d (timeC n))) fun y => some (y.1, y.2) := by kernel_rfl

def timeEnd (d : Desk) (y33 : Reply × Clerk) : Option (Desk × Reply) :=
  cond ((y33.1.err != 0))
    (ob (deskOwn d) fun y34 => ob (deskLease y33.1.lease) fun y35 => ob (deskOwn y34) fun y36 => some (y36, (Reply.mk y33.1.err y33.1.n y35)))
    (ob (deskOwn y33.2.d) fun y37 => ob (deskLease y33.1.lease) fun y38 => ob (deskOwn y37) fun y39 => some (y39, (Reply.mk y33.1.err y33.1.n y38)))

theorem do_time (d : Desk) (n : Int) : deskDo d (timeC n) = ob (deskOwn d) fun y32 => ob (clerkWork (Clerk.mk y32 (timeC n))) (timeEnd d) := by kernel_rfl

theorem end_bad (t n : Int) : timeEnd (atB t) (noR 1, Clerk.mk (atB t) (timeC n)) = some (atB t, noR 1) := by kernel_rfl
theorem end_good (t u n : Int) : timeEnd (atB t) (noR 0, Clerk.mk (atB u) (timeC n)) = some (atB u, noR 0) := by kernel_rfl

theorem time_bad (d : Desk) {n : Int} (h : n < 0 ∨ n > 1099511627776) : clerkTime (Clerk.mk d (timeC n)) = some (noR 1, Clerk.mk d (timeC n)) := by
  have : (cond (decide (n < 0)) true (decide (n > 1099511627776))) = true := by
    rcases h with h | h
    · rw [decide_eq_true h]; rfl
    · rw [decide_eq_true h]; cases decide (n < 0) <;> rfl
  unfold clerkTime
  simp only [this, cond_true]
  rfl

theorem time_good (t : Int) {n : Int} (h : ¬ (n < 0)) (h' : ¬ (n > 1099511627776)) : clerkTime (Clerk.mk (atB t) (timeC n)) = some (noR 0, Clerk.mk (atB (max2 t n)) (timeC n)) := by
  have : (cond (decide (n < 0)) true (decide (n > 1099511627776))) = false := by
    rw [decide_eq_false h, decide_eq_false h']; rfl
  unfold clerkTime
  simp only [this, cond_false]
  have e : ∀ t u : Int, Desk.mk (atB t).book (atB t).colls (atB t).log (atB t).dev (atB t).lost u = atB u := fun t u => by kernel_rfl
  rw [e, now_at]
  rfl

theorem do_bad (t : Int) {n : Int} (h : n < 0 ∨ n > 1099511627776) : deskDo (atB t) (timeC n) = some (atB t, noR 1) := by
  rw [do_time, own_at, ob_some, work_time, time_bad _ h, ob_some, ob_some, end_bad]

theorem do_good (t : Int) {n : Int} (h : ¬ (n < 0)) (h' : ¬ (n > 1099511627776)) : deskDo (atB t) (timeC n) = some (atB (max2 t n), noR 0) := by
  rw [do_time, own_at, ob_some, work_time, time_good t h h', ob_some, ob_some, end_good]

theorem times_loop (l : List Int) : ∃ y, L13_6 l false 0 0 (atB 0) = some y ∧ ∃ t, y = .inl (false, atB t) := by
  refine iter_inv (stp := stp_L13_6) (Inv := fun m x => ∃ (i : Nat) (t : Int), min l.length 30 = i + m ∧ x = (l, false, t, (i : Int), atB t)) (Post := fun y => ∃ t, y = .inl (false, atB t)) ?_ ?_ (min l.length 30) (((l.length : Int) - 0).toNat + 2) _ ⟨0, 0, by omega, rfl⟩ (by omega)
  · rintro x ⟨i, t, hm, rfl⟩
    have hx : (cond (decide ((i : Int) < (l.length : Int))) (decide ((i : Int) < 30)) false) = false := by
      cases h : decide ((i : Int) < (l.length : Int)) with
      | false => rfl
      | true => simp at h ⊢; omega
    exact ⟨_, by simp only [stp_L13_6, step_L13_6, hx, cond_false], t, rfl⟩
  · rintro m x ⟨i, t, hm, rfl⟩
    have hi : i < l.length := by omega
    have e1 : decide ((i : Int) < (l.length : Int)) = true := decide_eq_true (by omega)
    have e2 : decide ((i : Int) < 30) = true := decide_eq_true (by omega)
    have e3 : decide (0 ≤ (i : Int)) = true := by simp
    have hxs : l[((i : Int)).toNat]? = some l[i] := by simp [hi]
    have hw : w64 ((i : Int) + 1) = ((i + 1 : Nat) : Int) := w64_id (by omega) (by omega)
    have hs := same_at t
    rw [beq_self_eq_true] at hs
    simp only [stp_L13_6, step_L13_6, e1, e2, e3, hxs, cond_true, ob_some, hw]
    by_cases h : l[i] < 0
    · refine ⟨(l, false, t, ((i + 1 : Nat) : Int), atB t), ?_, i + 1, t, by omega, rfl⟩
      rw [do_bad t (.inl h), ob_some, decide_eq_true h]
      simp only [cond_true, hs, ob_some, now_at]
      simp [noR]
    · by_cases h' : l[i] > 1099511627776
      · refine ⟨(l, false, t, ((i + 1 : Nat) : Int), atB t), ?_, i + 1, t, by omega, rfl⟩
        rw [do_bad t (.inr h'), ob_some, decide_eq_false h, decide_eq_true h']
        simp only [cond_true, cond_false, hs, ob_some, now_at]
        simp [noR]
      · refine ⟨(l, false, max2 t l[i], ((i + 1 : Nat) : Int), atB (max2 t l[i])), ?_, i + 1, max2 t l[i], by omega, rfl⟩
        rw [do_good t h h', ob_some, decide_eq_false h, decide_eq_false h']
        simp only [cond_false, now_at]
        simp [noR]

theorem deskTimes_true (l : List Int) : deskTimes l = some true := by
  obtain ⟨y, hy, t, rfl⟩ := times_loop l
  rw [deskTimes, known_true, ob_some, Bool.not_true, cond_false, begin_at, ob_some, hy, ob_some, two_inl]

end Go.Proofs.YtcjpeijiaojeiaaGreat
