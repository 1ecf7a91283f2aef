/- By program (hands.py): desk.lost, desk.included: what they hand back, and that nothing that lay has turned. -/
import Derived.Test.YtaceajadklmddaaGreatProg
import Derived.DataElems
import Derived.Lib.SliceRun
import Derived.Lib.AtoiErrMem
import Derived.LoopIn
import Derived.LoopNIn
import Derived.OwnWalkIn
import Derived.RangeFuncBound
import Derived.RangeFuncBox
import Derived.RangeFuncCalls
import Derived.RangeFuncLeaves
import Derived.RangeFuncNested
import Derived.Shelf.Abstract
import Derived.TacticsInMore
import Derived.Test.YtaceajadklmddaaGreatKc
import Derived.WalkKit
namespace Go.Proofs.YtaceajadklmddaaGreat
open Go Go.Proofs Go.Ev Go.RowKit Go.Shelf Go.Lib

theorem lostT : K3T Tryz.prog 412 234 3 := k3T_of Tryz.underlying412 Tryz.underlying234 (by kernel_rfl) ⟨rfl, rfl, by decide⟩ ⟨rfl, rfl, by decide⟩ ⟨rfl, rfl, by decide⟩ Tryz.underlying3 Tryz.isAgg3 Tryz.zeroValue3

def flat3 (es : List K3) : List Value := es.flatMap fun x => [.int .i64 x.1, .int .i64 x.2.1, .int .i64 x.2.2]
theorem flat3_length (es : List K3) : (flat3 es).length = es.length * 3 := by
  induction es with
  | nil => rfl
  | cons x r ih => simp [flat3] at ih ⊢; omega
theorem flat3_get {es : List K3} {j : Nat} {x : K3} (h : es[j]? = some x) : (flat3 es)[j * 3]? = some (.int .i64 x.1) ∧ (flat3 es)[j * 3 + 1]? = some (.int .i64 x.2.1) ∧ (flat3 es)[j * 3 + 2]? = some (.int .i64 x.2.2) := by
  induction es generalizing j with
  | nil => simp at h
  | cons y r ih =>
    cases j with
    | zero => simp at h; subst h; simp [flat3]
    | succ j =>
      obtain ⟨a, b, c⟩ := ih (by simpa using h)
      refine ⟨?_, ?_, ?_⟩
      · rw [show (j + 1) * 3 = (j * 3) + 3 by omega]; simpa [flat3] using a
      · rw [show (j + 1) * 3 + 1 = (j * 3 + 1) + 3 by omega]; simpa [flat3] using b
      · rw [show (j + 1) * 3 + 2 = (j * 3 + 2) + 3 by omega]; simpa [flat3] using c

theorem below_putObj {n : Nat} {w W : World} (h : Below n w W) {b : Nat} (hb : n ≤ b) (o : Obj) : Below n w (W.putObj b o) :=
  ⟨h.os, h.tape, h.output, by simpa using h.size, fun j hj => by rw [World.putObj_heap_other (by omega)]; exact h.block j hj⟩

set_option maxRecDepth 100000 in
set_option maxHeartbeats 2000000 in
theorem lost_calls (w : World) (k : Nat) (a : Option Addr) (cap : Nat) (es : List K3) (d e : Int)
    (hcell : w.cell? ⟨k, 89, none⟩ = some (.slice a es.length cap)) (hlen : es.length ≤ 1073741824)
    (hc : 0 < es.length → ∃ ad, a = some ad ∧ ∀ (j : Nat) u, (flat3 es)[j]? = some u → w.cell? (ad.add j) = some u) :
    Calls Tryz.prog 204 #[.pointer (some ⟨k, 0, none⟩), .int .i64 d, .int .i64 e] w fun en w' => en = .returned (.bool (es.any fun x => x.1 == d && x.2.1 == e)) ∧ Below w.heap.size w w' := by
  have hmm := @run_makeMap Tryz.prog
  have hcell1 := Lib.cell?_alloc_some (.map #[] 0) hcell
  go_enter Tryz.func204, Tryz.ntmps204
  go_wp2
  go_loopw [17] (fun i wr => ∃ (j : Nat) (m : List (K3 × Int)), i = .int .i64 j ∧ j ≤ es.length ∧ wr.heap[w.heap.size]? = some (.map (ents m) m.length) ∧ (∀ x y, cnt3 m (x, y, 0) = ((es.take j).countP (fun q => q.1 == x && q.2.1 == y) : Nat)) ∧ Below w.heap.size w wr)
    (fun i _ => es.length - (RowKit.intOf i).toNat)
  case atStart => exact ⟨0, [], rfl, Nat.zero_le _, World.alloc_heap_new w _, fun x y => by simp [cnt3, at3], (Below.refl _ w).alloc (Nat.le_refl _) _⟩
  case round =>
    obtain ⟨j, m, rfl, hj, hm, hcnt, hb⟩ := hrel
    by_cases hlt : j < es.length
    · obtain ⟨ad, rfl, hcs⟩ := hc (by omega)
      obtain ⟨x, hx⟩ : ∃ x, es[j]? = some x := ⟨es[j], by simp [hlt]⟩
      obtain ⟨f0, f1, f2⟩ := flat3_get hx
      have hB : ∀ i u, (flat3 es)[i]? = some u → wr.cell? (ad.add i) = some u := fun i u hu => by
        have h1 := hcs i u hu
        exact (hb.cell (Lib.lt_of_cell h1)).trans h1
      have g0 := hB _ _ f0
      have g1 := hB _ _ f1
      have g2 := hB _ _ f2
      rw [← Addr.add_add] at g1 g2
      have g1' : wr.cell? ⟨(ad.add (j * 3)).block, (ad.add (j * 3)).off + 1, none⟩ = some (.int .i64 x.2.1) := g1
      have g2' : wr.cell? ⟨(ad.add (j * 3)).block, (ad.add (j * 3)).off + 2, none⟩ = some (.int .i64 x.2.2) := g2
      go_wp2
      obtain ⟨W, hW⟩ : ∃ W, wr.alloc (.cells #[.int .i64 x.1, .int .i64 x.2.1, .int .i64 0] 234) = W := ⟨_, rfl⟩
      have hlt0 : w.heap.size < wr.heap.size := (Array.getElem?_eq_some_iff.1 hm).1
      have hnew : W.heap[wr.heap.size]? = some (.cells #[.int .i64 x.1, .int .i64 x.2.1, .int .i64 0] 234 (0, 0)) := by rw [← hW]; exact World.alloc_heap_new _ _
      have k0 : W.cell? ⟨wr.heap.size, 0, none⟩ = some (.int .i64 x.1) := by rw [cell_of_block hnew]; rfl
      have k1 : W.cell? ⟨wr.heap.size, 1, none⟩ = some (.int .i64 x.2.1) := by rw [cell_of_block hnew]; rfl
      have k2 : W.cell? ⟨wr.heap.size, 2, none⟩ = some (.int .i64 0) := by rw [cell_of_block hnew]; rfl
      have hmW : W.drew.heap[w.heap.size]? = some (.map (ents m) m.length) := by rw [← hW]; exact (Below.heap_alloc _ _ _ hlt0).trans hm
      generalize hO : Obj.map (ents (touch3 m (x.1, x.2.1, 0))) (touch3 m (x.1, x.2.1, 0)).length = O2
      have hmT : (W.drew.putObj w.heap.size O2).heap[w.heap.size]? = some (.map (ents (touch3 m (x.1, x.2.1, 0))) (touch3 m (x.1, x.2.1, 0)).length) := by
        rw [World.putObj_heap_same (Array.getElem?_eq_some_iff.1 hmW).1, hO]
      have k0' : (W.drew.putObj w.heap.size O2).cell? ⟨wr.heap.size, 0, none⟩ = some (.int .i64 x.1) := by
        simp only [World.cell?, World.putObj_heap_other (show wr.heap.size ≠ w.heap.size by omega)]; exact k0
      have k1' : (W.drew.putObj w.heap.size O2).cell? ⟨wr.heap.size, 1, none⟩ = some (.int .i64 x.2.1) := by
        simp only [World.cell?, World.putObj_heap_other (show wr.heap.size ≠ w.heap.size by omega)]; exact k1
      have k2' : (W.drew.putObj w.heap.size O2).cell? ⟨wr.heap.size, 2, none⟩ = some (.int .i64 0) := by
        simp only [World.cell?, World.putObj_heap_other (show wr.heap.size ≠ w.heap.size by omega)]; exact k2
      generalize hC : cnt3 m (x.1, x.2.1, 0) = C
      have hct : cnt3 (touch3 m (x.1, x.2.1, 0)) (x.1, x.2.1, 0) = C := by
        rw [← hC]; unfold touch3 cnt3
        cases h : at3 (x.1, x.2.1, 0) m with
        | some q => simp [h]
        | none => simp [at3_append, h]
      generalize hI : (goInt (idx3 m (x.1, x.2.1, 0)) : Value) = I3
      have hl : (Instr.lookup 412 (.map (some w.heap.size)) (.agg #[.int .i64 x.1, .int .i64 x.2.1, .int .i64 0]) false).run Tryz.prog W.drew = .ok (.int .i64 C) W.drew := by
        rw [← hC]; exact run_lookup3 lostT (x.1, x.2.1, 0) hmW
      have hl' : (Instr.lookup 412 (.map (some w.heap.size)) (.agg #[.int .i64 x.1, .int .i64 x.2.1, .int .i64 0]) false).run Tryz.prog (W.drew.putObj w.heap.size O2) = .ok (.int .i64 C) (W.drew.putObj w.heap.size O2) := by
        rw [← hct]; exact run_lookup3 lostT (x.1, x.2.1, 0) hmT
      have he : (Instr.mapEntry 412 (.map (some w.heap.size)) (.agg #[.int .i64 x.1, .int .i64 x.2.1, .int .i64 0])).run Tryz.prog W.drew = .ok (.tuple #[.int .i64 C, I3]) (W.drew.putObj w.heap.size O2) := by
        rw [← hC, ← hI, ← hO]; exact run_mapEntry3 lostT (x.1, x.2.1, 0) hmW
      have hs : ∀ v, (Instr.entryStore 412 (.map (some w.heap.size)) I3 (.int .i64 v)).run Tryz.prog (W.drew.putObj w.heap.size O2) = .ok () ((W.drew.putObj w.heap.size O2).putObj w.heap.size (.map (ents (put3 m (x.1, x.2.1, 0) v)) (put3 m (x.1, x.2.1, 0) v).length)) := by
        intro v; rw [← hI]; exact run_entryStore3 (x.1, x.2.1, 0) v hmT
      rw [hW]
      go_region
      go_wp2
      go_roundw
      case rel =>
        have hC' : C = ((es.take j).countP (fun q => q.1 == x.1 && q.2.1 == x.2.1) : Nat) := by rw [← hC]; exact hcnt x.1 x.2.1
        have hCle : (es.take j).countP (fun q => q.1 == x.1 && q.2.1 == x.2.1) ≤ 1073741824 := Nat.le_trans List.countP_le_length (by simp; omega)
        have hw : wrap64 (C + 1) = C + 1 := by rw [hC']; unfold wrap64; omega
        refine ⟨j + 1, _, by simp, by omega, World.putObj_heap_same (by simp; exact (Array.getElem?_eq_some_iff.1 hmW).1), ?_, ?_⟩
        · intro x' y'
          rw [cnt3_put, hw, List.take_add_one, hx, List.countP_append]
          by_cases hk : x' = x.1 ∧ y' = x.2.1
          · obtain ⟨rfl, rfl⟩ := hk
            rw [if_pos rfl, hC']; simp
          · rw [if_neg (fun h => hk (by simpa using h)), hcnt]
            have : (x.1 == x' && x.2.1 == y') = false := by
              rw [Bool.and_eq_false_iff]
              by_cases h1 : x.1 = x'
              · exact .inr (by simp; exact fun h2 => hk ⟨h1.symm, h2.symm⟩)
              · exact .inl (by simpa using h1)
            simp [this]
        · have hW' : Below w.heap.size w W := by rw [← hW]; exact hb.alloc hb.size _
          exact below_putObj (below_putObj (by exact ⟨hW'.os, hW'.tape, hW'.output, hW'.size, hW'.block⟩) (Nat.le_refl _) _) (Nat.le_refl _) _
      case measure => simp [RowKit.intOf]; omega
    · obtain rfl : j = es.length := by omega
      have hl2 : (Instr.lookup 412 (.map (some w.heap.size)) (.agg #[.int .i64 d, .int .i64 e, .int .i64 0]) false).run Tryz.prog wr = .ok (.int .i64 (cnt3 m (d, e, 0))) wr := run_lookup3 lostT (d, e, 0) hm
      go_wp2
      go_ret
      refine ⟨?_, hb⟩
      have hany : decide ((es.countP (fun q => q.1 == d && q.2.1 == e) : Int) > 0) = es.any fun x => x.1 == d && x.2.1 == e := by
        rw [Bool.eq_iff_iff, decide_eq_true_eq, List.any_eq_true]
        have := @List.countP_pos_iff _ es (fun q : K3 => q.1 == d && q.2.1 == e)
        rw [← this]; omega
      rw [← hany]
      rfl

section
open Go Go.Proofs Go.Ev Go.RowKit Go.Shelf
attribute [local go_sem] Oper.semAt_some

/-- an operation's cells -/
structure OpC where
  (d e s : Int)
  (r0 r1 r2 r3 r4 r5 r6 r7 : Value)
  one : ∀ v ∈ [r0, r1, r2, r3, r4, r5, r6, r7], v.oneCell' = true
def OpC.cells (x : OpC) : List Value := [.int .i64 x.d, .int .i64 x.e, .int .i64 x.s, x.r0, x.r1, x.r2, x.r3, x.r4, x.r5, x.r6, x.r7]
def flatO (es : List OpC) : List Value := es.flatMap OpC.cells
theorem flatO_get {es : List OpC} {j : Nat} {x : OpC} (h : es[j]? = some x) {i : Nat} {v : Value} (hi : x.cells[i]? = some v) : (flatO es)[j * 11 + i]? = some v := by
  induction es generalizing j with
  | nil => simp at h
  | cons y r ih =>
    have hc : y.cells.length = 11 := rfl
    cases j with
    | zero =>
      simp at h; subst h
      have hl := (List.getElem?_eq_some_iff.1 hi).1
      rw [hc] at hl
      simp only [flatO, List.flatMap_cons, Nat.zero_mul, Nat.zero_add]
      rw [List.getElem?_append_left (by omega)]; exact hi
    | succ j =>
      have := ih (by simpa using h)
      simp only [flatO, List.flatMap_cons] at this ⊢
      rw [List.getElem?_append_right (by omega), hc, show (j + 1) * 11 + i - 11 = j * 11 + i by omega]; exact this

/-- what has come when k rounds are over -/
def backs (es : List OpC) (k : Nat) : List (Nat × OpC) := (es.zipIdx.reverse.take k).map fun p => (p.2, p.1)
theorem backs_succ {es : List OpC} {k : Nat} {x : OpC} (hk : k < es.length) (hx : es[es.length - 1 - k]? = some x) : backs es (k + 1) = backs es k ++ [(es.length - 1 - k, x)] := by
  unfold backs
  rw [List.take_add_one]
  have : es.zipIdx.reverse[k]? = some (x, es.length - 1 - k) := by
    rw [List.getElem?_reverse (by simpa using hk)]
    simp [hx]
  simp [this]
theorem backs_length {es : List OpC} {k : Nat} (hk : k ≤ es.length) : (backs es k).length = k := by simp [backs]; omega

set_option maxRecDepth 100000 in
set_option maxHeartbeats 2000000 in
theorem back1_in (F : Fence) (n : Nat) (h7 : F.fn 336) (hro : F.round = none) (hn : 1 ≤ n) (l Bs n₀ : Nat) (ad : Addr) (cap : Nat) (es : List OpC) (hlen : es.length ≤ 1073741824) (hb : ad.block < n₀) (hBn : Bs < n₀) (J Jx : List (Nat × OpC) → World → Prop)
    (hY : ∀ pre x W, J pre W → pre.length < es.length → YieldAt F (n - 1) Tryz.prog l #[.int .i64 (x.1 : Int), .agg x.2.cells.toArray] W fun e W' =>
      (e = .returned (.bool true) ∧ J (pre ++ [x]) W' ∧ Below n₀ W W') ∨ (e = .returned (.bool false) ∧ Jx (pre ++ [x]) W'))
    (W : World) (hBs : W.cell? ⟨Bs, 0, none⟩ = some (.slice (some ad) es.length cap)) (hc : ∀ (j : Nat) u, (flatO es)[j]? = some u → W.cell? (ad.add j) = some u) (h0 : J [] W) :
    CallsIn F n Tryz.prog 336 #[.func (.yield l) #[] #[], .pointer (some ⟨Bs, 0, none⟩)] W fun e W' => (∃ v, e = .returned v) ∧
      (J (backs es es.length) W' ∨ (∃ k, k ≤ es.length ∧ Jx (backs es k) W')) := by
  refine callsIn_of_wp Tryz.func336 rfl h7 ?_ hro
  simp only [Tryz.ntmps336, List.size_toArray, List.length_cons, List.length_nil, Nat.reduceAdd, Nat.reduceSub, Array.replicate_succ, Array.replicate_zero, List.push_toArray, List.append_toArray, List.nil_append, List.cons_append]
  gi_wp2
  gi_loopw [3] (fun i wr => ∃ k : Nat, k ≤ es.length ∧ i = .int .i64 ((es.length : Int) - 1 - k) ∧ J (backs es k) wr ∧ Below n₀ W wr)
    (fun i _ => (RowKit.intOf i + 1).toNat)
  case atStart => 
    exact ⟨0, Nat.zero_le _, by simp, h0, Below.refl _ _⟩
  case round =>
    obtain ⟨k, hk, rfl, hJs, hnx⟩ := hrel
    have hBs' : wr.cell? ⟨Bs, 0, none⟩ = some (.slice (some ad) es.length cap) := (hnx.cell (p := ⟨Bs, 0, none⟩) hBn).trans hBs
    by_cases hlt : k < es.length
    · obtain ⟨p, hp⟩ : ∃ p : Nat, (es.length : Int) - 1 - k = p := ⟨es.length - 1 - k, by omega⟩
      have hpk : es.length - 1 - k = p := by omega
      have hpl : p < es.length := by omega
      obtain ⟨x, hx⟩ : ∃ x, es[p]? = some x := ⟨es[p], by simp [hpl]⟩
      have hB : ∀ i v, x.cells[i]? = some v → wr.cell? ((ad.add (p * 11)).add i) = some v := fun i v hi => by
        rw [Addr.add_add]
        have h1 := hc _ _ (flatO_get hx hi)
        have hblk : (ad.add (p * 11 + i)).block = ad.block := by simp [Addr.add]; split <;> rfl
        exact (hnx.cell (p := ad.add (p * 11 + i)) (by rw [hblk]; exact hb)).trans h1
      have g0 : wr.cell? (ad.add (p * 11)) = some (.int .i64 x.d) := hB 0 _ rfl
      have g1 : wr.cell? ⟨(ad.add (p * 11)).block, (ad.add (p * 11)).off + 1, none⟩ = some (.int .i64 x.e) := hB 1 _ rfl
      have g2 : wr.cell? ⟨(ad.add (p * 11)).block, (ad.add (p * 11)).off + 2, none⟩ = some (.int .i64 x.s) := hB 2 _ rfl
      have g3 : wr.cell? ⟨(ad.add (p * 11)).block, (ad.add (p * 11)).off + 3, none⟩ = some x.r0 := hB 3 _ rfl
      have g4 : wr.cell? ⟨(ad.add (p * 11)).block, (ad.add (p * 11)).off + 4, none⟩ = some x.r1 := hB 4 _ rfl
      have g5 : wr.cell? ⟨(ad.add (p * 11)).block, (ad.add (p * 11)).off + 5, none⟩ = some x.r2 := hB 5 _ rfl
      have g6 : wr.cell? ⟨(ad.add (p * 11)).block, (ad.add (p * 11)).off + 6, none⟩ = some x.r3 := hB 6 _ rfl
      have g7 : wr.cell? ⟨(ad.add (p * 11)).block, (ad.add (p * 11)).off + 7, none⟩ = some x.r4 := hB 7 _ rfl
      have g8 : wr.cell? ⟨(ad.add (p * 11)).block, (ad.add (p * 11)).off + 8, none⟩ = some x.r5 := hB 8 _ rfl
      have g9 : wr.cell? ⟨(ad.add (p * 11)).block, (ad.add (p * 11)).off + 9, none⟩ = some x.r6 := hB 9 _ rfl
      have g10 : wr.cell? ⟨(ad.add (p * 11)).block, (ad.add (p * 11)).off + 10, none⟩ = some x.r7 := hB 10 _ rfl
      obtain ⟨fn, tmps, assign, body, hy, hR⟩ := hY _ (p, x) wr hJs (by rw [backs_length hk]; exact hlt)
      dsimp only [OpC.cells] at hy
      rw [hp]
      gi_wp2
      refine hR.mono ?_
      rintro e W3 (⟨rfl, hJ3, hk3⟩ | ⟨rfl, hJx3⟩)
      · gi_wp2
        go_roundw
        case rel => exact ⟨k + 1, by omega, by congr 1; simp; omega, by rw [backs_succ hlt (by rw [hpk]; exact hx), hpk]; exact hJ3, hnx.trans hk3⟩
        case measure => simp [RowKit.intOf]
      · gi_wp2
        refine bodyPost_ret (results_none rfl _ _ _) rfl ?_
        exact ⟨⟨_, rfl⟩, .inr ⟨k + 1, by omega, by rw [backs_succ hlt (by rw [hpk]; exact hx), hpk]; exact hJx3⟩⟩
    · obtain rfl : k = es.length := by omega
      gi_wp2
      go_end0
      exact ⟨⟨_, rfl⟩, .inl hJs⟩

set_option maxHeartbeats 1000000 in
/-- at a nil slice: no round -/
theorem back1_nil_in (F : Fence) (n : Nat) (h7 : F.fn 336) (hro : F.round = none) (l Bs cap : Nat) (J : List (Nat × OpC) → World → Prop) (a : Option Addr) (W : World) (hBs : W.cell? ⟨Bs, 0, none⟩ = some (.slice a 0 cap)) (h0 : J [] W) :
    CallsIn F n Tryz.prog 336 #[.func (.yield l) #[] #[], .pointer (some ⟨Bs, 0, none⟩)] W fun e W' => (∃ v, e = .returned v) ∧ J [] W' := by
  refine callsIn_of_wp Tryz.func336 rfl h7 ?_ hro
  simp only [Tryz.ntmps336, List.size_toArray, List.length_cons, List.length_nil, Nat.reduceAdd, Nat.reduceSub, Array.replicate_succ, Array.replicate_zero, List.push_toArray, List.append_toArray, List.nil_append, List.cons_append]
  gi_wp2
  gi_loopw [3] (fun i wr => i = .int .i64 (-1) ∧ J [] wr) (fun _ _ => 0)
  case atStart => exact ⟨rfl, h0⟩
  case round =>
    obtain ⟨rfl, hJs⟩ := hrel
    gi_wp2
    go_end0
    exact ⟨⟨_, rfl⟩, hJs⟩

set_option maxHeartbeats 1000000 in
/-- slices.Backward(s): the slice value is boxed; the function value captures the box. -/
theorem back_in (F : Fence) (n : Nat) (h5 : F.fn 282) (hro : F.round = none) (a : Option Addr) (len cap : Nat) (w : World) :
    CallsIn F n Tryz.prog 282 #[.slice a len cap] w fun e w' => e = .returned (.func (.func 336) #[] #[.pointer (some ⟨w.heap.size, 0, none⟩)]) ∧ w' = w.alloc (.cells #[.slice a len cap] 52) := by
  refine callsIn_of_wp Tryz.func282 rfl h5 ?_ hro
  simp only [Tryz.ntmps282, List.size_toArray, List.length_cons, List.length_nil, Nat.reduceAdd, Nat.reduceSub, Array.replicate_succ, Array.replicate_zero, List.push_toArray, List.append_toArray, List.nil_append, List.cons_append]
  gi_wp2
  go_ret
  exact ⟨rfl, rfl⟩

/-- slices.Backward(s) hands back a value that goes through all of es from behind, or a part of it. -/
theorem back_stops (F : Fence) (n : Nat) (h7 : F.fn 336) (hro : F.round = none) (hn : 1 ≤ n) (Bs : Nat) (a : Option Addr) (cap : Nat) (es : List OpC) (hlen : es.length ≤ 1073741824) (w : World) (hBs : Bs < w.heap.size)
    (hc : w.cell? ⟨Bs, 0, none⟩ = some (.slice a es.length cap)) (hI : 0 < es.length → ∃ ad, a = some ad ∧ ad.block < w.heap.size ∧ ∀ (j : Nat) u, (flatO es)[j]? = some u → w.cell? (ad.add j) = some u) :
    SeqStopsK F n Tryz.prog 336 #[.pointer (some ⟨Bs, 0, none⟩)] (fun x : Nat × OpC => #[Value.int .i64 (x.1 : Int), .agg x.2.cells.toArray]) (Below w.heap.size) (fun ys => ys = backs es es.length)
      (fun pre => ∃ k, k ≤ es.length ∧ pre = backs es k) es.length w := fun l J Jx W hW _ _ hY h0 => by
  have hc' := (hW.cell (p := ⟨Bs, 0, none⟩) hBs).trans hc
  rcases Nat.eq_zero_or_pos es.length with h | h
  · have he := List.eq_nil_of_length_eq_zero h
    subst he
    exact (back1_nil_in F n h7 hro l Bs cap J a W hc' h0).mono fun e W' ⟨he, hj⟩ => ⟨he, .inl ⟨_, rfl, hj⟩⟩
  · obtain ⟨ad, rfl, hb, hcs⟩ := hI h
    refine (back1_in F n h7 hro hn l Bs w.heap.size ad cap es hlen hb hBs J Jx hY W hc' (fun j u hu => ?_) h0).mono ?_
    · have h1 := hcs j u hu
      have hblk : (ad.add j).block = ad.block := by simp [Addr.add]; split <;> rfl
      exact (hW.cell (p := ad.add j) (by rw [hblk]; exact hb)).trans h1
    · rintro e W' ⟨he, hj | ⟨k, hk, hj⟩⟩
      · exact ⟨he, .inl ⟨_, rfl, hj⟩⟩
      · exact ⟨he, .inr ⟨_, ⟨k, hk, rfl⟩, hj⟩⟩


def isOf (d e : Int) (p : Nat × OpC) : Bool := p.2.d == d && p.2.e == e

theorem backs_snd (es : List OpC) (k : Nat) : (backs es k).map (·.2) = es.reverse.take k := by
  unfold backs
  rw [List.map_map, List.map_take]
  congr 1
  rw [show ((fun x : Nat × OpC => x.2) ∘ fun p : OpC × Nat => (p.2, p.1)) = Prod.fst from rfl, List.map_reverse]
  congr 1
  apply List.ext_getElem?
  intro i
  simp

theorem incl_none {es : List OpC} {d e : Int} (h : ∀ p ∈ backs es es.length, isOf d e p = false) : inclIn (fun x : OpC => x.d == d && x.e == e) (fun x => x.s) es = 0 := by
  unfold inclIn
  have h1 := backs_snd es es.length
  rw [List.take_of_length_le (by simp)] at h1
  have : es.reverse.find? (fun x : OpC => x.d == d && x.e == e) = none := by
    rw [List.find?_eq_none]
    intro x hx
    rw [← h1, List.mem_map] at hx
    obtain ⟨p, hp, rfl⟩ := hx
    have := h p hp
    unfold isOf at this
    simp [this]
  rw [this]
theorem incl_some {es : List OpC} {d e : Int} {k : Nat} {ini : List (Nat × OpC)} {last : Nat × OpC} (hk : backs es k = ini ++ [last]) (h : ∀ p ∈ ini, isOf d e p = false) (hl : isOf d e last = true) :
    inclIn (fun x : OpC => x.d == d && x.e == e) (fun x => x.s) es = last.2.s := by
  unfold inclIn
  have h1 := backs_snd es k
  rw [hk, List.map_append] at h1
  have h2 : es.reverse = ini.map (·.2) ++ ([last.2] ++ es.reverse.drop k) := by
    rw [← List.append_assoc]
    have h3 : ini.map (·.2) ++ [last.2] = es.reverse.take k := h1
    rw [h3, List.take_append_drop]
  have : es.reverse.find? (fun x : OpC => x.d == d && x.e == e) = some last.2 := by
    rw [h2, List.find?_append]
    have h4 : (ini.map (·.2)).find? (fun x : OpC => x.d == d && x.e == e) = none := by
      rw [List.find?_eq_none]
      intro x hx
      obtain ⟨p, hp, rfl⟩ := List.mem_map.1 hx
      have := h p hp
      unfold isOf at this
      simp [this]
    unfold isOf at hl
    simp [h4, hl]
  rw [this]

set_option maxRecDepth 100000 in
set_option maxHeartbeats 4000000 in
theorem included_in (F : Fence) (n : Nat) (h3 : F.fn 208) (h5 : F.fn 282) (h7 : F.fn 336) (hro : F.round = none) (hn : 3 ≤ n) (w : World) (k : Nat) (a : Option Addr) (cap : Nat) (es : List OpC) (d e : Int) (hlen : es.length ≤ 1073741824)
    (hcell : w.cell? ⟨k, 22, none⟩ = some (.slice a es.length cap))
    (hI : 0 < es.length → ∃ ad, a = some ad ∧ ∀ (j : Nat) u, (flatO es)[j]? = some u → w.cell? (ad.add j) = some u) :
    CallsIn F n Tryz.prog 208 #[.pointer (some ⟨k, 0, none⟩), .int .i64 d, .int .i64 e] w fun en W' => en = .returned (.int .i64 (inclIn (fun x : OpC => x.d == d && x.e == e) (fun x => x.s) es)) ∧ Below w.heap.size w W' := by
  have h1 : 1 ≤ n := by omega
  have hcell1 := Lib.cell?_alloc_some (.cells #[.int .i64 0] 3) (Lib.cell?_alloc_some (.cells #[.int .i64 e] 3) (Lib.cell?_alloc_some (.cells #[.int .i64 d] 3) hcell))
  refine callsIn_of_wp_marks Tryz.func208 rfl h3 ?_ hro
  simp only [Tryz.ntmps208, List.size_toArray, List.length_cons, List.length_nil, Nat.reduceAdd, Nat.reduceSub, Array.replicate_succ, Array.replicate_zero, List.push_toArray, List.append_toArray, List.nil_append, List.cons_append]
  gi_wp2_with (gi_at_call 282; refine (back_in F (n - 1) h5 hro _ _ _ _).mono ?_; rintro e w' ⟨rfl, rfl⟩)
  have hB0 : Below w.heap.size w ((((w.alloc (.cells #[.int .i64 d] 3)).alloc (.cells #[.int .i64 e] 3)).alloc (.cells #[.int .i64 0] 3)).alloc (.cells #[.slice a es.length cap] 52)) :=
    ((((Below.refl _ w).alloc (Nat.le_refl _) _).alloc (by simp) _).alloc (by simp; omega) _).alloc (by simp; omega) _
  have bD := (((Boxed.new w 3 (.int .i64 d)).alloc (.cells #[.int .i64 e] 3)).alloc (.cells #[.int .i64 0] 3)).alloc (.cells #[.slice a es.length cap] 52)
  have bE := ((Boxed.new (w.alloc (.cells #[.int .i64 d] 3)) 3 (.int .i64 e)).alloc (.cells #[.int .i64 0] 3)).alloc (.cells #[.slice a es.length cap] 52)
  have bR := (Boxed.new ((w.alloc (.cells #[.int .i64 d] 3)).alloc (.cells #[.int .i64 e] 3)) 3 (.int .i64 0)).alloc (.cells #[.slice a es.length cap] 52)
  have bS := Boxed.new (((w.alloc (.cells #[.int .i64 d] 3)).alloc (.cells #[.int .i64 e] 3)).alloc (.cells #[.int .i64 0] 3)) 52 (.slice a es.length cap)
  simp only [World.size_alloc] at bE bR bS
  obtain ⟨W0, hW0⟩ : ∃ W0, (((w.alloc (.cells #[.int .i64 d] 3)).alloc (.cells #[.int .i64 e] 3)).alloc (.cells #[.int .i64 0] 3)).alloc (.cells #[.slice a es.length cap] 52) = W0 := ⟨_, rfl⟩
  have hsz : W0.heap.size = w.heap.size + 4 := by rw [← hW0]; simp
  rw [hW0] at hB0 bD bE bR bS ⊢
  refine wpIn_rangeFunc_ownH hro h1 (gf := 336) (lb := #[.pointer (some ⟨w.heap.size + 1 + 1 + 1, 0, none⟩)]) rfl h7 (enters_of Tryz.func336 (by kernel_rfl) rfl)
    (back_stops F (n - 1) h7 hro (by omega) (w.heap.size + 1 + 1 + 1) a cap es hlen W0 (by omega) bS.cell (fun h => by
      obtain ⟨ad, rfl, hcs⟩ := hI h
      have hl : ad.block < w.heap.size := by
        have h0 := hcs 0 _ (flatO_get (j := 0) (x := es[0]) (by simp [h]) (i := 0) rfl)
        have := Lib.lt_of_cell h0
        have hblk : (ad.add 0).block = ad.block := by simp [Addr.add]
        rwa [hblk] at this
      refine ⟨ad, rfl, by omega, fun j u hu => ?_⟩
      have h1 := hcs j u hu
      exact (hB0.cell (Lib.lt_of_cell h1)).trans h1)) belowK_t (belowK_b (by omega)) (Below.refl _ _) (fun _ => rfl)
    (fun pre W => (Boxed W w.heap.size 3 (.int .i64 d) ∧ Boxed W (w.heap.size + 1) 3 (.int .i64 e) ∧ Boxed W (w.heap.size + 1 + 1) 3 (.int .i64 0) ∧ W0.heap.size ≤ W.heap.size ∧ ∀ p ∈ pre, isOf d e p = false) ∧ Below w.heap.size w W)
    (fun c pre W => (c = .ret ∧ ∃ ini last, pre = ini ++ [last] ∧ (∀ p ∈ ini, isOf d e p = false) ∧ isOf d e last = true ∧ Boxed W (w.heap.size + 1 + 1) 3 (.int .i64 last.2.s)) ∧ Below w.heap.size w W)
    (OwnFrom.and (Own.from (fun s A B row hs hg hr => ⟨boxed_own w.heap.size 3 (fun _ : Unit => .int .i64 d) () A B row hs.1 hg hr, boxed_own (w.heap.size + 1) 3 (fun _ : Unit => .int .i64 e) () A B row hs.2.1 hg hr, boxed_own (w.heap.size + 1 + 1) 3 (fun _ : Unit => .int .i64 0) () A B row hs.2.2.1 hg hr, Nat.le_trans hs.2.2.2.1 hg.size, hs.2.2.2.2⟩) _) (ownFrom_below (Nat.le_refl _) (by omega)))
    ?hIx ⟨⟨bD, bE, bR, Nat.le_refl _, by simp⟩, hB0⟩
    (fun x a' W => ∃ Bx, W0.heap.size ≤ Bx ∧ W.heap[Bx]? = some (.cells x.2.cells.toArray 35 (0, 0)) ∧ a' = { tmps := #[.pointer (some ⟨k, 0, none⟩), .int .i64 d, .int .i64 e, undef, .pointer (some ⟨w.heap.size, 0, none⟩), .pointer (some ⟨w.heap.size + 1, 0, none⟩), .pointer (some ⟨w.heap.size + 1 + 1, 0, none⟩), undef, .pointer (some ⟨Bx, 0, none⟩), .pointer (some ⟨k, 0, none⟩), .pointer (some ⟨k, 0, none⟩), .pointer (some ⟨k, 0, none⟩), .pointer (some ⟨k, 22, none⟩), .slice a es.length cap, .func (.func 336) #[] #[.pointer (some ⟨w.heap.size + 1 + 1 + 1, 0, none⟩)], .int .i64 (x.1 : Int), .agg x.2.cells.toArray, undef, undef, undef, undef, undef, undef, undef, undef, undef, undef, undef, undef, undef, undef, undef], defers := [] })
    ?hAx ?assign ?body ?done ?stop
  case hIx =>
    intro c
    exact OwnFrom.and (Own.from (fun s A B row hs hg hr => by
      obtain ⟨hc, ini, last, e1, e2, e3, e4⟩ := hs
      exact ⟨hc, ini, last, e1, e2, e3, boxed_own (w.heap.size + 1 + 1) 3 (fun _ : Unit => .int .i64 last.2.s) () A B row e4 hg hr⟩) _) (ownFrom_below (Nat.le_refl _) (by omega))
  case hAx =>
    intro x a'
    exact Own.from (fun s A B row hs hg hr => by
      obtain ⟨Bx, h2, h3, h4⟩ := hs
      exact ⟨Bx, h2, (grownBy_keeps_cells hg hr h3 rfl).trans h3, h4⟩) _
  case assign =>
    rintro l pre x W K ⟨⟨b1, b2, b3, h0W, hp⟩, hB⟩ hK
    have hone : ∀ v ∈ x.2.cells, v.oneCell' = true := by
      intro v hv
      have : v = .int .i64 x.2.d ∨ v = .int .i64 x.2.e ∨ v = .int .i64 x.2.s ∨ v ∈ [x.2.r0, x.2.r1, x.2.r2, x.2.r3, x.2.r4, x.2.r5, x.2.r6, x.2.r7] := by simpa [OpC.cells] using hv
      rcases this with rfl | rfl | rfl | h
      · rfl
      · rfl
      · rfl
      · exact x.2.one v h
    have hst := run_storeCells_at (P := Tryz.prog) W.heap.size 0 35 x.2.cells 0 #[.int .i64 0, .int .i64 0, .int .i64 0, .int .i64 0, .int .i64 0, .int .i64 0, .string ⟨#[]⟩, .string ⟨#[]⟩, .int .i64 0, .int .i64 0, .slice none 0 0] _ (World.alloc_heap_new W _) (by simp [OpC.cells]) hone
    simp only [Nat.add_zero] at hst
    obtain ⟨W1, hW1⟩ : ∃ W1, W1 = World.setRow (W.alloc (.cells #[.int .i64 0, .int .i64 0, .int .i64 0, .int .i64 0, .int .i64 0, .int .i64 0, .string ⟨#[]⟩, .string ⟨#[]⟩, .int .i64 0, .int .i64 0, .slice none 0 0] 35)) W.heap.size x.2.cells.toArray := ⟨_, rfl⟩
    have hst' : (storeCells ⟨W.heap.size, 0, none⟩ x.2.cells).run Tryz.prog (W.alloc (.cells #[.int .i64 0, .int .i64 0, .int .i64 0, .int .i64 0, .int .i64 0, .int .i64 0, .string ⟨#[]⟩, .string ⟨#[]⟩, .int .i64 0, .int .i64 0, .slice none 0 0] 35)) = .ok () W1 := by
      rw [hW1, hst]; congr 2
    have hh : W1.heap[W.heap.size]? = some (.cells x.2.cells.toArray 35 (0, 0)) := by rw [hW1]; exact setRow_heap _ _ _ _ _ _ (World.alloc_heap_new W _)
    have hbW : Below W.heap.size W W1 := by
      rw [hW1]
      exact ⟨rfl, rfl, rfl, by simp, fun j hj => (setRow_other _ _ _ _ (by omega)).trans (Below.heap_alloc _ _ _ hj)⟩
    clear hW1 hst
    gi_wp2
    have kp : ∀ {B : Nat} {t : TypeId} {v : Value}, Boxed W B t v → Boxed W1 B t v := fun h => (hbW.block _ h.lt).trans h
    have hsW := hB.size
    exact hK _ _ ⟨hbW.size, fun j o _ hj _ => (hbW.block j (Array.getElem?_eq_some_iff.1 hj).1).trans hj⟩ (hbW.mono h0W) ⟨⟨kp b1, kp b2, kp b3, Nat.le_trans h0W hbW.size, hp⟩, hB.trans (hbW.mono hsW)⟩ ⟨W.heap.size, h0W, hh, rfl⟩
  case body =>
    rintro l pre x a' W hl ⟨r, hr⟩ ⟨⟨b1, b2, b3, h0W, hp⟩, hB⟩ ⟨Bx, hBx, bX, rfl⟩ hlt
    have c1 := b1.cell
    have c2 := b2.cell
    have c3 := b3.cell
    have f3 := b3.frozen
    have x0 : W.cell? ⟨Bx, 0, none⟩ = some (.int .i64 x.2.d) := by rw [cell_of_block bX]; rfl
    have x1 : W.cell? ⟨Bx, 1, none⟩ = some (.int .i64 x.2.e) := by rw [cell_of_block bX]; rfl
    have x2 : W.cell? ⟨Bx, 2, none⟩ = some (.int .i64 x.2.s) := by rw [cell_of_block bX]; rfl
    by_cases hd : x.2.d = d
    · by_cases he : x.2.e = e
      · gi_wp2
        exact ⟨(KeepsOthers.setCell _ _ _).from _, ⟨rfl, pre, x, rfl, hp, by simp [isOf, hd, he], b3.set _⟩, hB.setCell (p := ⟨w.heap.size + 1 + 1, 0, none⟩) (by show w.heap.size ≤ w.heap.size + 1 + 1; omega) _⟩
      · gi_wp2
        exact ⟨KeepsFrom.refl _ _, Below.refl _ _, ⟨b1, b2, b3, h0W, fun p hp' => (List.mem_append.1 hp').elim (hp p) (fun h => by simp at h; subst h; simp [isOf, he])⟩, hB⟩
    · gi_wp2
      exact ⟨KeepsFrom.refl _ _, Below.refl _ _, ⟨b1, b2, b3, h0W, fun p hp' => (List.mem_append.1 hp').elim (hp p) (fun h => by simp at h; subst h; simp [isOf, hd])⟩, hB⟩
  case done =>
    rintro D ys W hD rfl ⟨⟨b1, b2, b3, _, hp⟩, hB⟩ hK
    have c3 := b3.cell
    have f3 := b3.frozen
    gi_wp2
    have hK' := (KeepsOthers.setCell W ⟨w.heap.size + 1 + 1, 0, none⟩ (.int .i64 0)).same D _ hK rfl
    refine ⟨by simp, .inl ⟨_, _, rfl, run_takeDeferred hK', ?_⟩⟩
    have hc5 := cell_kept (World.cell?_setCell_same' W ⟨w.heap.size + 1 + 1, 0, none⟩ (.int .i64 0) (by rw [c3]; rfl)) (grownBy_putObj' _ D (.deferred none)) (fun r e => by cases e; exact ⟨_, hK', rfl⟩)
    refine ⟨.int .i64 0, ?_, by rw [incl_none hp], (hB.setCell (p := ⟨w.heap.size + 1 + 1, 0, none⟩) (by show w.heap.size ≤ w.heap.size + 1 + 1; omega) _).trans (belowK_b (w := w) (Nat.le_refl _) _ D _ _ (by omega) hK' rfl rfl)⟩
    simp [results, Tryz.f208, go_sem, hc5]
  case stop =>
    rintro D c pre W hD ⟨k', hk', rfl⟩ ⟨⟨rfl, ini, last, e1, e2, e3, bR'⟩, hB⟩ hK
    gi_wp2
    refine ⟨by simp, .inl ⟨_, _, rfl, run_takeDeferred hK, ?_⟩⟩
    have hc5 := cell_kept bR'.cell (grownBy_putObj' _ D (.deferred none)) (fun r e => by cases e; exact ⟨_, hK, rfl⟩)
    refine ⟨.int .i64 last.2.s, ?_, by rw [incl_some e1 e2 e3], hB.trans (belowK_b (w := w) (Nat.le_refl _) W D _ _ (by omega) hK rfl rfl)⟩
    simp [results, Tryz.f208, go_sem, hc5]
end
end Go.Proofs.YtaceajadklmddaaGreat
