/- By hand: replica's reach: how far the log is committed. -/
import Derived.Test.YtaceajadklmddaaGreatProg
import Derived.DataElems
import Derived.Lib.SliceRun
import Derived.LoopIn
import Derived.LoopNIn
import Derived.Handy
import Derived.Tactics2
import Derived.WalkArith
import Derived.Test.YtaceajadklmddaaGreatKc
import Derived.Below
import Derived.Deep.RegionHeld
import Derived.Great.Walk
import Derived.Lib.AtoiErrMem
import Derived.RangeFuncBox
import Derived.OwnWalkIn
import Derived.WalkKit
namespace Go.Proofs.YtaceajadklmddaaGreat
open Go Go.Proofs Go.RowKit Go.Lib Go.Cx

theorem flat2_get {es : List (Int × ByteArray)} {j : Nat} {x : Int × ByteArray} (h : es[j]? = some x) : (flat2 es)[j * 2]? = some (.int .i64 x.1) ∧ (flat2 es)[j * 2 + 1]? = some (.string x.2) := by
  induction es generalizing j with
  | nil => simp at h
  | cons y r ih =>
    cases j with
    | zero => simp at h; subst h; simp [flat2]
    | succ j =>
      obtain ⟨a, b⟩ := ih (by simpa using h)
      refine ⟨?_, ?_⟩
      · rw [show (j + 1) * 2 = (j * 2) + 2 by omega]; simpa [flat2] using a
      · rw [show (j + 1) * 2 + 1 = (j * 2 + 1) + 2 by omega]; simpa [flat2] using b

theorem reachC_snoc (T m0 m1 m2 : Int) (x : Int × ByteArray) : ∀ (l : List (Int × ByteArray)) (i c : Int), reachC T m0 m1 m2 (l ++ [x]) i c = if cntM m0 m1 m2 (i + l.length) ≥ 2 ∧ x.1 = T then max (reachC T m0 m1 m2 l i c) (i + l.length) else reachC T m0 m1 m2 l i c
  | [], i, c => by
    show reachC T m0 m1 m2 [] (i + 1) _ = _
    simp [reachC]
  | y :: l, i, c => by
    show reachC T m0 m1 m2 (l ++ [x]) (i + 1) _ = _
    rw [reachC_snoc T m0 m1 m2 x l]
    have e : i + 1 + (l.length : Int) = i + ((y :: l).length : Int) := by simp; omega
    rw [e]
    rfl

theorem setCell_far {w : World} {k o o' : Nat} {v u : Value} (h : o ≠ o') (hc : w.cell? ⟨k, o', none⟩ = some u) : (w.setCell ⟨k, o, none⟩ v).cell? ⟨k, o', none⟩ = some u := by
  unfold World.cell? World.setCell at *
  simp only [Array.getElem?_modify, if_true]
  cases hb : w.heap[k]? with
  | none => rw [hb] at hc; simp at hc
  | some x =>
    rw [hb] at hc
    cases x <;> simp_all [Array.getElem?_setIfInBounds_ne]

theorem idx0 (m0 m1 m2 : Int) (W : World) : (Instr.index 109 (.agg #[.int .i64 m0, .int .i64 m1, .int .i64 m2]) (.int .i64 0)).run Tryz.prog W = .ok (.int .i64 m0) W := by kernel_rfl
theorem idx1 (m0 m1 m2 : Int) (W : World) : (Instr.index 109 (.agg #[.int .i64 m0, .int .i64 m1, .int .i64 m2]) (.int .i64 1)).run Tryz.prog W = .ok (.int .i64 m1) W := by kernel_rfl
theorem idx2 (m0 m1 m2 : Int) (W : World) : (Instr.index 109 (.agg #[.int .i64 m0, .int .i64 m1, .int .i64 m2]) (.int .i64 2)).run Tryz.prog W = .ok (.int .i64 m2) W := by kernel_rfl

theorem below_set {n k o : Nat} {w W : World} {c v : Value} (h : Below n (w.setCell ⟨k, o, none⟩ c) W) (hk : k < n) : Below n (w.setCell ⟨k, o, none⟩ v) (W.setCell ⟨k, o, none⟩ v) := by
  refine ⟨h.os, h.tape, h.output, by have := h.size; simpa using this, fun j hj => ?_⟩
  have hb := h.block j hj
  by_cases e : j = k
  · subst e
    show (W.heap.modify j _)[j]? = (w.heap.modify j _)[j]?
    have hb : W.heap[j]? = (w.heap.modify j _)[j]? := hb
    rw [Array.getElem?_modify, if_pos rfl, Array.getElem?_modify, if_pos rfl]
    rw [Array.getElem?_modify, if_pos rfl] at hb
    rw [hb]
    cases w.heap[j]? with
    | none => rfl
    | some x => cases x <;> simp
  · rw [Below.heap_setCell _ _ _ _ e] at hb
    rw [Below.heap_setCell _ _ _ _ e, Below.heap_setCell _ _ _ _ e]
    exact hb
theorem below_id {k o : Nat} {w : World} {v : Value} (h : w.cell? ⟨k, o, none⟩ = some v) {n : Nat} : Below n (w.setCell ⟨k, o, none⟩ v) w := by
  refine ⟨rfl, rfl, rfl, by simp, fun j hj => ?_⟩
  by_cases e : j = k
  · subst e
    show w.heap[j]? = (w.heap.modify j _)[j]?
    rw [Array.getElem?_modify, if_pos rfl]
    unfold World.cell? at h
    cases hb : w.heap[j]? with
    | none => rfl
    | some x =>
      rw [hb] at h
      cases x with
      | cells c el fr =>
        have h : c[o]? = some v := h
        have : c.setIfInBounds o v = c := by
          apply Array.ext_getElem?
          intro i
          by_cases e : o = i
          · subst e
            rw [Array.getElem?_setIfInBounds_self, h]
            have := (Array.getElem?_eq_some_iff.1 h).1
            simp [this]
          · rw [Array.getElem?_setIfInBounds_ne e]
        simp [this]
      | _ => rfl
  · rw [Below.heap_setCell _ _ _ _ e]
theorem two {m0 m1 m2 i a b : Int} (h : (m0 ≥ i ∧ m1 ≥ i) ∨ (m0 ≥ i ∧ m2 ≥ i) ∨ (m1 ≥ i ∧ m2 ≥ i)) (e : a = b) : cntM m0 m1 m2 i ≥ 2 ∧ a = b := by
  refine ⟨?_, e⟩
  unfold cntM
  split <;> split <;> split <;> omega
theorem less {m0 m1 m2 i a b : Int} (h : ¬ (((m0 ≥ i ∧ m1 ≥ i) ∨ (m0 ≥ i ∧ m2 ≥ i) ∨ (m1 ≥ i ∧ m2 ≥ i)) ∧ a = b)) : ¬ (cntM m0 m1 m2 i ≥ 2 ∧ a = b) := by
  rintro ⟨h1, h2⟩
  refine h ⟨?_, h2⟩
  unfold cntM at h1
  revert h1
  split <;> split <;> split <;> intro h1 <;> omega

set_option maxRecDepth 100000 in
set_option maxHeartbeats 4000000 in
theorem reach_calls (w : World) (k : Nat) (a : Option Addr) (cap : Nat) (es : List (Int × ByteArray)) (B T C m0 m1 m2 : Int)
    (hL : w.cell? ⟨k, 6, none⟩ = some (.slice a es.length cap)) (hB : w.cell? ⟨k, 3, none⟩ = some (.int .i64 B)) (hT : w.cell? ⟨k, 1, none⟩ = some (.int .i64 T)) (hC : w.cell? ⟨k, 8, none⟩ = some (.int .i64 C))
    (h0 : w.cell? ⟨k, 16, none⟩ = some (.int .i64 m0)) (h1 : w.cell? ⟨k, 17, none⟩ = some (.int .i64 m1)) (h2 : w.cell? ⟨k, 18, none⟩ = some (.int .i64 m2))
    (hF : w.frozen? ⟨k, 8, none⟩ = false) (hlen : es.length ≤ 1048576) (hB0 : 0 ≤ B) (hB1 : B ≤ 1099511627776)
    (hc : 0 < es.length → ∃ ad, a = some ad ∧ ad.block ≠ k ∧ ∀ (j : Nat) u, (flat2 es)[j]? = some u → w.cell? (ad.add j) = some u) :
    Calls Tryz.prog 339 #[.pointer (some ⟨k, 0, none⟩)] w fun en w' => en = .returned (.tuple #[]) ∧ Below w.heap.size (w.setCell ⟨k, 8, none⟩ (.int .i64 (reachC T m0 m1 m2 es (B + 1) C))) w' := by
  have hk := Lib.lt_of_cell hC
  go_enter Tryz.func339, Tryz.ntmps339
  go_wp2
  go_loopw [14] (fun i wr => ∃ (j : Nat) (c : Int), i = .int .i64 j ∧ j ≤ es.length ∧ c = reachC T m0 m1 m2 (es.take j) (B + 1) C ∧ Below w.heap.size (w.setCell ⟨k, 8, none⟩ (.int .i64 c)) wr)
    (fun i _ => es.length - (RowKit.intOf i).toNat)
  case atStart => exact ⟨0, C, rfl, Nat.zero_le _, rfl, below_id hC⟩
  case round =>
    obtain ⟨j, c, rfl, hj, hcj, hb⟩ := hrel
    have hs : (w.setCell ⟨k, 8, none⟩ (.int .i64 c)).heap.size = w.heap.size := by simp
    have far : ∀ {o : Nat} {u : Value}, o ≠ 8 → w.cell? ⟨k, o, none⟩ = some u → wr.cell? ⟨k, o, none⟩ = some u := fun ho hu =>
      (hb.cell (p := ⟨k, _, none⟩) hk).trans (setCell_far (Ne.symm ho) hu)
    have gL := far (by decide) hL
    have gB := far (by decide) hB
    have gT := far (by decide) hT
    have g0 := far (by decide) h0
    have g1 := far (by decide) h1
    have g2 := far (by decide) h2
    have gC : wr.cell? ⟨k, 8, none⟩ = some (.int .i64 c) := (hb.cell (p := ⟨k, 8, none⟩) hk).trans (World.cell?_setCell_same' w ⟨k, 8, none⟩ (.int .i64 c) (by rw [hC]; rfl))
    have gF : wr.frozen? ⟨k, 8, none⟩ = false := (hb.frozen (p := ⟨k, 8, none⟩) hk).trans (by rw [World.frozen?_setCell]; exact hF)
    have hkr : k < wr.heap.size := Nat.lt_of_lt_of_le (by rw [hs]; exact hk) hb.size
    by_cases hlt : j < es.length
    · obtain ⟨ad, rfl, hne, hcs⟩ := hc (by omega)
      obtain ⟨x, hx⟩ : ∃ x, es[j]? = some x := ⟨es[j], by simp [hlt]⟩
      obtain ⟨f0, f1⟩ := flat2_get hx
      have hE : ∀ i u, (flat2 es)[i]? = some u → wr.cell? (ad.add i) = some u := fun i u hu => by
        have h1 := hcs i u hu
        exact (hb.cell (Lib.lt_of_cell h1)).trans ((World.cell?_setCell_far w ⟨k, 8, none⟩ (ad.add i) _ (by rw [show (ad.add i).block = ad.block by unfold Addr.add; split <;> rfl]; exact Ne.symm hne)).trans h1)
      have e0 := hE _ _ f0
      have e1 := hE _ _ f1
      rw [← Addr.add_add] at e1
      have e1' : wr.cell? ⟨(ad.add (j * 2)).block, (ad.add (j * 2)).off + 1, none⟩ = some (.string x.2) := e1
      clear hL hB hT hC h0 h1 h2
      have aB := Lib.cell?_alloc_some (.cells #[.int .i64 x.1, .string x.2] 285) gB
      have aT := Lib.cell?_alloc_some (.cells #[.int .i64 x.1, .string x.2] 285) gT
      have a0 := Lib.cell?_alloc_some (.cells #[.int .i64 x.1, .string x.2] 285) g0
      have a1 := Lib.cell?_alloc_some (.cells #[.int .i64 x.1, .string x.2] 285) g1
      have a2 := Lib.cell?_alloc_some (.cells #[.int .i64 x.1, .string x.2] 285) g2
      have i0 := idx0 m0 m1 m2
      have i1 := idx1 m0 m1 m2
      have i2 := idx2 m0 m1 m2
      have aC := Lib.cell?_alloc_some (.cells #[.int .i64 x.1, .string x.2] 285) gC
      go_wp2
      go_rounds 4
      all_goals
        obtain ⟨W, hW⟩ : ∃ W, wr.alloc (.cells #[.int .i64 x.1, .string x.2] 285) = W := ⟨_, rfl⟩
        have hnew : W.heap[wr.heap.size]? = some (.cells #[.int .i64 x.1, .string x.2] 285 (0, 0)) := by rw [← hW]; exact World.alloc_heap_new _ _
        have k0 : W.cell? ⟨wr.heap.size, 0, none⟩ = some (.int .i64 x.1) := by simp [World.cell?, hnew]
        have fW : W.frozen? ⟨k, 8, none⟩ = false := by rw [← hW, World.frozen?_alloc_past _ _ _ hkr]; exact gF
        have hbW : Below w.heap.size (w.setCell ⟨k, 8, none⟩ (.int .i64 c)) W := by rw [← hW]; exact hb.alloc (by have := hb.size; rw [hs] at this; exact this) _
        rw [hW] at aB aT a0 a1 a2 aC ⊢
        subst hcj
        generalize hcc : reachC T m0 m1 m2 (List.take j es) (B + 1) C = cc at *
        go_region
        go_wp2
      all_goals
        refine ⟨⟨j + 1, reachC T m0 m1 m2 (es.take (j + 1)) (B + 1) C, by simp, by omega, rfl, ?_⟩, by simp [RowKit.intOf]; omega⟩
        rw [List.take_add_one, hx, show (some x).toList = [x] from rfl, reachC_snoc, hcc, List.length_take, Nat.min_eq_left hj, show B + 1 + (j : Int) = B + j + 1 by omega]
        first
          | (have q := eq_of_beq (show (x.1 == T) = true by assumption)
             rw [if_pos (two (by omega) q)]; exact (below_set hbW hk).drew)
          | (have q0 : (x.1 == T) = false := by assumption
             have q : ¬ x.1 = T := by simpa using q0
             rw [if_neg (less (by omega))]; exact hbW.drew)
          | (rw [if_neg (less (by omega))]; exact hbW.drew)
    · obtain rfl : j = es.length := by omega
      clear hL hB hT hC h0 h1 h2
      go_wp2
      refine Go.Great.bodyPost_end0 (by rfl) rfl ⟨rfl, ?_⟩
      rw [List.take_length] at hcj
      subst hcj
      exact hb

/-- the oracle -/
noncomputable def reachR : FuncId → List Value → W → Option Re := reachO 339
theorem reachR_ok {gB : Gh} {wB : World} : OrcOkH Tryz.prog gB wB reachR := reachO_ok reach_calls

end Go.Proofs.YtaceajadklmddaaGreat
