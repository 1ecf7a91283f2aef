/- The law ReplicaVotes on typed data. -/
import Derived.Test.YtoicjnggljeicaaP
namespace Go.Proofs.Ytoicjnggljeicaa
open Go Go.Ev
set_option maxRecDepth 100000

def vN (L : List Entry) : Node := Node.mk 0 0 (-1) 0 0 s_empty L 0 0 0 (A3Bool.mk false false false) (A3Int.mk 0 0 0) (A3Int.mk 0 0 0)

def LastOk (L : List Entry) : Prop := ∀ e, L.getLast? = some e → 1 ≤ e.term_ ∧ e.term_ ≤ 5

theorem fits_small {n : Nat} (h : n ≤ 1000) : fits n = true := by
  unfold fits lim; simp; omega

theorem votes_loop (l : List Int) (i1 i2 : Int) (b : Bool) : ∀ (d j : Nat) (i3 : Int) (L : List Entry) (fuel : Nat), j + d = 8 → L.length = j → 0 ≤ i3 → i3 ≤ j → LastOk L → l.length - j + 1 ≤ fuel →
    ∃ L', iterO stp_L3_6 fuel (l, i1, i2, b, i3, (j : Int), vN L) = some (i1, i2, b, vN L') ∧ L'.length ≤ 8 ∧ LastOk L' := by
  intro d
  induction d with
  | zero =>
    intro j i3 L fuel hj hL h0 h1 hlast hf
    obtain ⟨f, rfl⟩ : ∃ f, fuel = f + 1 := ⟨fuel - 1, by omega⟩
    refine ⟨L, ?_, by omega, hlast⟩
    have e : decide ((j : Int) < 8) = false := by simp; omega
    have hs : stp_L3_6 (l, i1, i2, b, i3, (j : Int), vN L) = some (.inr (i1, i2, b, vN L)) := by
      simp only [stp_L3_6, step_L3_6, e]
      cases decide ((j : Int) < (l.length : Int)) <;> rfl
    simp only [iterO, hs, ob_some, two_inr]
  | succ d ih =>
    intro j i3 L fuel hj hL h0 h1 hlast hf
    obtain ⟨f, rfl⟩ : ∃ f, fuel = f + 1 := ⟨fuel - 1, by omega⟩
    by_cases hjl : j < l.length
    · have e1 : decide ((j : Int) < (l.length : Int)) = true := by simp; omega
      have e2 : decide ((j : Int) < 8) = true := by simp; omega
      have e3 : decide (0 ≤ (j : Int)) = true := by simp
      have e4 : l[(j : Int).toNat]? = some l[j] := by simp [hjl]
      have m1 := Int.emod_nonneg l[j] (by omega : (2 : Int) ≠ 0)
      have m2 := Int.emod_lt_of_pos l[j] (by omega : (0 : Int) < 2)
      have e5 : within l[j] 2 = some (l[j] % 2) := within_eq (by omega) (by omega)
      have e6 : w64 (i3 + l[j] % 2) = i3 + l[j] % 2 := w64_id (by omega) (by omega)
      have e7 : w64 ((j : Int) + 1) = ((j + 1 : Nat) : Int) := by rw [w64_id (by omega) (by omega)]; omega
      let e : Entry := Entry.mk (min2 (max2 (i3 + l[j] % 2) 1) 5) s_empty
      have hs : stp_L3_6 (l, i1, i2, b, i3, (j : Int), vN L) = some (.inl (l, i1, i2, b, i3 + l[j] % 2, ((j + 1 : Nat) : Int), vN (L ++ [e]))) := by
        simp only [stp_L3_6, step_L3_6, e1, e2, e3, e4, e5, e6, e7, cond_true, ob_some]
        have e8 : fits (((vN L).log ++ [Entry.mk (min2 (max2 (i3 + l[j] % 2) 1) 5) s_empty]).length) = true := fits_small (by simp [vN]; omega)
        rw [e8]; rfl
      obtain ⟨L', h2, h3, h4⟩ := ih (j + 1) (i3 + l[j] % 2) (L ++ [e]) f (by omega) (by simp; omega) (by omega) (by omega) (by
        intro x hx
        simp at hx
        subst hx
        simp only [e, min2, max2]
        split <;> split <;> omega) (by omega)
      refine ⟨L', ?_, h3, h4⟩
      rw [iterO, hs]
      simpa using h2
    · have e1 : decide ((j : Int) < (l.length : Int)) = false := by simp; omega
      refine ⟨L, ?_, by omega, hlast⟩
      have hs : stp_L3_6 (l, i1, i2, b, i3, (j : Int), vN L) = some (.inr (i1, i2, b, vN L)) := by
        simp only [stp_L3_6, step_L3_6, e1]
        rfl
      simp only [iterO, hs, ob_some, two_inr]

theorem own_eq {L : List Entry} (h : L.length ≤ 1000) : own L = some L := by
  unfold own
  simp [fits_small h]

def lastT (L : List Entry) (bt : Int) : Int := match L.getLast? with | some e => e.term_ | none => bt

theorem last_eq {n : Node} (hb : n.base = 0) (h : n.log.length ≤ 1000) : last_ n = some ((n.log.length : Int), lastT n.log n.baseTerm) := by
  unfold last_
  have e1 : w64 (n.base + (n.log.length : Int)) = (n.log.length : Int) := by rw [hb, w64_id (by omega) (by omega)]; omega
  have e2 : w64 ((n.log.length : Int) - n.base) = (n.log.length : Int) := by rw [hb, w64_id (by omega) (by omega)]; omega
  have e3 : w64 ((n.log.length : Int) - 1) = (n.log.length : Int) - 1 := w64_id (by omega) (by omega)
  simp only [e1, e2, e3]
  unfold lastT
  cases hl : n.log with
  | nil => simp
  | cons a r =>
    have e4 : decide (((a :: r).length : Int) - 1 ≥ 0) = true := by simp
    have e5 : decide (((a :: r).length : Int) - 1 < ((a :: r).length : Int)) = true := by simp; omega
    have e6 : decide (0 ≤ ((a :: r).length : Int) - 1) = true := by simp
    have e7 : (((a :: r).length : Int) - 1).toNat = (a :: r).length - 1 := by simp
    simp only [e4, e5, e6, e7, cond_true]
    rw [List.getLast?_eq_getElem?]
    cases hg : (a :: r)[(a :: r).length - 1]? with
    | none => simp at hg
    | some e => rfl

def vYes (L : List Entry) (r3 r4 : Int) : Bool := cond (decide (r4 > lastT L 0)) true (cond (r4 == lastT L 0) (decide (r3 ≥ (L.length : Int))) false)
def vN5 (L : List Entry) : Node := Node.mk 0 5 (-1) 0 0 s_empty L 0 0 0 (A3Bool.mk false false false) (A3Int.mk 0 0 0) (A3Int.mk 0 0 0)
def vN6 (L : List Entry) (v : Int) : Node := Node.mk 0 6 v 0 0 s_empty L 0 0 0 (A3Bool.mk false false false) (A3Int.mk 0 0 0) (A3Int.mk 0 0 0)

theorem take1 {L : List Entry} (h : L.length ≤ 8) (r3 r4 : Int) : take (vN5 L) (Msg.mk 1 1 0 6 r3 r4 0 false [] s_empty) = some (vN6 L (cond (vYes L r3 r4) 1 (-1)), [Msg.mk 2 0 1 6 0 0 0 (vYes L r3 r4) [] s_empty]) := by
  have ho : own L = some L := own_eq (by omega)
  have hl : last_ (Node.mk 0 6 (-1) 0 0 s_empty L 0 0 0 (A3Bool.mk false false false) (A3Int.mk 0 0 0) (A3Int.mk 0 0 0)) = some ((L.length : Int), lastT L 0) := last_eq rfl (by simp; omega)
  have hf : fits 1 = true := rfl
  simp only [take, vN5, ho, ob_some]
  simp only [show decide ((1 : Int) < 0) = false from rfl, show decide ((1 : Int) ≥ 3) = false from rfl, show ((1 : Int) == 0) = false from rfl, show ((0 : Int) != 0) = false from rfl, show decide ((1 : Int) < 1) = false from rfl, show decide ((1 : Int) > 5) = false from rfl,
    show decide ((6 : Int) < 0) = false from rfl, show decide ((6 : Int) > 1073741824) = false from rfl, show decide ((6 : Int) > 5) = true from rfl, show ((1 : Int) == 1) = true from rfl, cond_true, cond_false]
  simp only [vote, hl, ob_some]
  simp only [show ((6 : Int) == 6) = true from rfl, show ((-1 : Int) == -1) = true from rfl, cond_true]
  rw [show (cond (decide (r4 > lastT L 0)) true (cond (r4 == lastT L 0) (decide (r3 ≥ (L.length : Int))) false)) = vYes L r3 r4 from rfl]
  cases vYes L r3 r4 <;> simp [send, hf, ho, vN6]

theorem take2 {L : List Entry} (h : L.length ≤ 8) (hL : LastOk L) (v from_ : Int) (hv : from_ = 1 ∨ from_ = 2) : take (vN6 L v) (Msg.mk 1 from_ 0 6 9 6 0 false [] s_empty) = some (vN6 L (cond (v == -1 || v == from_) from_ v), [Msg.mk 2 0 from_ 6 0 0 0 (v == -1 || v == from_) [] s_empty]) := by
  have ho : own L = some L := own_eq (by omega)
  have hl : last_ (Node.mk 0 6 v 0 0 s_empty L 0 0 0 (A3Bool.mk false false false) (A3Int.mk 0 0 0) (A3Int.mk 0 0 0)) = some ((L.length : Int), lastT L 0) := last_eq rfl (by simp; omega)
  have hf : fits 1 = true := rfl
  have hlt : decide ((6 : Int) > lastT L 0) = true := by
    unfold lastT
    cases hg : L.getLast? with
    | none => simp
    | some e => have := hL e hg; simp; omega
  rcases hv with rfl | rfl
  all_goals
    simp only [take, vN6, ho, ob_some]
    simp only [show decide ((1 : Int) < 0) = false from rfl, show decide ((1 : Int) ≥ 3) = false from rfl, show ((1 : Int) == 0) = false from rfl, show decide ((2 : Int) < 0) = false from rfl, show decide ((2 : Int) ≥ 3) = false from rfl, show ((2 : Int) == 0) = false from rfl, show ((0 : Int) != 0) = false from rfl, show decide ((1 : Int) < 1) = false from rfl, show decide ((1 : Int) > 5) = false from rfl,
      show decide ((6 : Int) < 0) = false from rfl, show decide ((6 : Int) > 1073741824) = false from rfl, show decide ((6 : Int) > 6) = false from rfl, show ((1 : Int) == 1) = true from rfl, cond_true, cond_false]
    simp only [vote, hl, ob_some, hlt]
    simp only [show ((6 : Int) == 6) = true from rfl, cond_true]
    cases h1 : (v == (-1 : Int)) <;> simp [send, hf, ho]
    cases h2 : (v == (1 : Int)) <;> cases h3 : (v == (2 : Int)) <;> simp [hf, ho, h2, h3]

theorem take3 {L : List Entry} (h : L.length ≤ 8) (v : Int) : take (vN6 L v) (Msg.mk 1 1 0 5 9 5 0 false [] s_empty) = some (vN6 L v, [Msg.mk 2 0 1 6 0 0 0 false [] s_empty]) := by
  have ho : own L = some L := own_eq (by omega)
  have hl : last_ (Node.mk 0 6 v 0 0 s_empty L 0 0 0 (A3Bool.mk false false false) (A3Int.mk 0 0 0) (A3Int.mk 0 0 0)) = some ((L.length : Int), lastT L 0) := last_eq rfl (by simp; omega)
  have hf : fits 1 = true := rfl
  simp only [take, vN6, ho, ob_some]
  simp only [show decide ((1 : Int) < 0) = false from rfl, show decide ((1 : Int) ≥ 3) = false from rfl, show ((1 : Int) == 0) = false from rfl, show ((0 : Int) != 0) = false from rfl, show decide ((1 : Int) < 1) = false from rfl, show decide ((1 : Int) > 5) = false from rfl,
    show decide ((5 : Int) < 0) = false from rfl, show decide ((5 : Int) > 1073741824) = false from rfl, show decide ((5 : Int) > 6) = false from rfl, show ((1 : Int) == 1) = true from rfl, cond_true, cond_false]
  simp only [vote, hl, ob_some]
  simp only [show ((5 : Int) == 6) = false from rfl, cond_false]
  simp [send, hf, ho]

def votesEnd (b : Bool) (r2 : Int × Int) (r3 r4 : Int) (r5 : Node × List Msg) : Option Bool :=
    cond (((r5.2.length : Int) != 1))
      (some false)
      (ob (r5.2[0]?) fun e6 =>
      cond ((e6.kind != 2))
        (some false)
        (ob (r5.2[0]?) fun e7 =>
        cond ((!(e7.yes == (cond (decide (r4 > r2.2)) true (cond (r4 == r2.2) (decide (r3 ≥ r2.1)) false)))))
          (some false)
          (ob (r5.2[0]?) fun e8 =>
          cond ((cond (e8.term_ != 6) true (r5.1.term_ != 6)))
            (some false)
            (ob (take r5.1 (Msg.mk 1 (cond b 1 2) 0 6 9 6 0 false [] s_empty)) fun r9 =>
            ob (take r5.1 (Msg.mk 1 1 0 5 9 5 0 false [] s_empty)) fun r10 =>
            cond (((r9.2.length : Int) == 1))
              (ob (r9.2[0]?) fun e11 =>
              cond (b)
                (cond ((e11.yes == true))
                  (cond (((r10.2.length : Int) == 1))
                    (ob (r10.2[0]?) fun e12 =>
                    cond ((!e12.yes))
                      (ob (r10.2[0]?) fun e13 =>
                      some (e13.term_ == 6))
                      (some false))
                    (some false))
                  (some false))
                (cond ((e11.yes == (!(cond (decide (r4 > r2.2)) true (cond (r4 == r2.2) (decide (r3 ≥ r2.1)) false)))))
                  (cond (((r10.2.length : Int) == 1))
                    (ob (r10.2[0]?) fun e14 =>
                    cond ((!e14.yes))
                      (ob (r10.2[0]?) fun e15 =>
                      some (e15.term_ == 6))
                      (some false))
                    (some false))
                  (some false)))
              (some false)))))

theorem votes_rest {L : List Entry} (h : L.length ≤ 8) (hL : LastOk L) (i1 i2 : Int) (b : Bool) : votesRest (i1, i2, b, vN L) = some true := by
  have hl : last_ (vN5 L) = some ((L.length : Int), lastT L 0) := last_eq rfl (by simp [vN5]; omega)
  have e1 : within i1 10 = some (i1 % 10) := within_eq (by omega) (by omega)
  have e2 : within i2 7 = some (i2 % 7) := within_eq (by omega) (by omega)
  have t1 := take1 h (i1 % 10) (i2 % 7)
  have t2 := take2 h hL (cond (vYes L (i1 % 10) (i2 % 7)) 1 (-1)) (cond b 1 2) (by cases b <;> simp)
  have t3 := take3 h (cond (vYes L (i1 % 10) (i2 % 7)) 1 (-1))
  have hr : votesRest (i1, i2, b, vN L) = ob (last_ (vN5 L)) fun r2 => ob (within i1 10) fun r3 => ob (within i2 7) fun r4 => ob (take (vN5 L) (Msg.mk 1 1 0 6 r3 r4 0 false [] s_empty)) fun r5 => votesEnd b r2 r3 r4 r5 := rfl
  rw [hr, hl]
  simp only [ob_some, e1, e2]
  rw [t1]
  simp only [ob_some, votesEnd]
  rw [t2, t3]
  have hy : vYes L (i1 % 10) (i2 % 7) = cond (decide (i2 % 7 > lastT L 0)) true (cond (i2 % 7 == lastT L 0) (decide (i1 % 10 ≥ (L.length : Int))) false) := rfl
  cases c1 : decide (i2 % 7 > lastT L 0) <;> cases c2 : (i2 % 7 == lastT L 0) <;> cases c3 : decide (i1 % 10 ≥ (L.length : Int)) <;> cases b <;> simp [hy, c1, c2, c3, vN6]

theorem votes_true (l : List Int) (i1 i2 : Int) (b : Bool) : replicaVotes l i1 i2 b = some true := by
  obtain ⟨L', h1, h2, h3⟩ := votes_loop l i1 i2 b 8 0 0 [] (((l.length : Int) - 0).toNat + 2) rfl rfl (by omega) (by simp) (by intro e he; simp at he) (by simp)
  have hf : replicaVotes l i1 i2 b = ob (L3_6 l i1 i2 b 0 0 (vN [])) votesRest := by
    unfold replicaVotes
    rw [known_true]
    rfl
  rw [hf]
  have : L3_6 l i1 i2 b 0 0 (vN []) = some (i1, i2, b, vN L') := h1
  rw [this, ob_some]
  exact votes_rest h2 h3 i1 i2 b

end Go.Proofs.Ytoicjnggljeicaa
