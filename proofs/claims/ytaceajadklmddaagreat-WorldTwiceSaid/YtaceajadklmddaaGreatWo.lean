/- Worlds: desk.lost, desk.included are known by the rows that they look through. -/
import Derived.Test.YtaceajadklmddaaGreatWh
import Derived.Test.YtaceajadklmddaaGreatKc
namespace Go.Proofs.YtaceajadklmddaaGreat
open Go Go.Cx Go.Ev Go.RowKit

/-- three numbers each -/
noncomputable def dec3 : Nat → List Value → Option (List K3)
  | _, [] => some []
  | k + 1, .int .i64 a :: .int .i64 b :: .int .i64 c :: r => (match dec3 k r with | some l => some ((a, b, c) :: l) | none => none)
  | _, _ => none
theorem dec3_flat : ∀ {k : Nat} {l : List Value} {es : List K3}, dec3 k l = some es → l = flat3 es
  | _, [], es, h => by
    unfold dec3 at h; cases h; rfl
  | 0, _ :: _, es, h => by simp [dec3] at h
  | k + 1, x :: r, es, h => by
    unfold dec3 at h
    split at h
    · rename_i e; cases e
    · rename_i a b c r' e
      cases e
      split at h
      · rename_i l hl
        cases h
        rw [dec3_flat hl]; rfl
      · cases h
    · cases h
theorem ints_same {g : Gh} {es : List K3} {l' : List Value} (h : All2 (RC g) (flat3 es) l') : l' = flat3 es := by
  induction es generalizing l' with
  | nil => cases h; rfl
  | cons x r ih =>
    have h : All2 (RC g) (.int .i64 x.1 :: .int .i64 x.2.1 :: .int .i64 x.2.2 :: flat3 r) l' := h
    cases h with
    | cons h1 t1 => cases t1 with
      | cons h2 t2 => cases t2 with
        | cons h3 t3 =>
          rw [h1.of_free rfl, h2.of_free rfl, h3.of_free rfl, ih t3]; rfl

noncomputable def decL (l : List Value) (d e : Int) : Option Value := match dec3 l.length l with | some es => some (.bool (es.any fun x => x.1 == d && x.2.1 == e)) | none => none
noncomputable def lostO : FuncId → List Value → W → Option Re := orcR 204 89 3 decL
theorem lostO_ok {gB : Gh} {wB : World} : OrcOkH Tryz.prog gB wB lostO := by
  refine orcR_ok fun g k a cap m l l' d e v w hd ha hl hm hcell hc => ?_
  unfold decL at hd
  split at hd
  · rename_i es hes
    cases hd
    have hf := dec3_flat hes
    subst hf
    have hn : m = es.length := by have := flat3_length es; omega
    subst hn
    rw [ints_same ha] at hc
    exact lost_calls w k a cap es d e hcell (by omega) hc
  · cases hd

/-- operations: of which device and epoch, which number, the rest of their cells -/
noncomputable def dec11 : Nat → List Value → Option (List (Int × Int × Int))
  | _, [] => some []
  | k + 1, .int .i64 a :: .int .i64 b :: .int .i64 c :: _ :: _ :: _ :: _ :: _ :: _ :: _ :: _ :: r => (match dec11 k r with | some l => some ((a, b, c) :: l) | none => none)
  | _, _ => none
theorem dec11_ops {g : Gh} : ∀ {k : Nat} {l l' : List Value} {es : List (Int × Int × Int)}, dec11 k l = some es → All2 (RC g) l l' → ∃ xs : List OpC, l' = flatO xs ∧ xs.map (fun x => (x.d, x.e, x.s)) = es ∧ l.length = xs.length * 11
  | _, [], l', es, h, ha => by
    unfold dec11 at h; cases h; cases ha; exact ⟨[], rfl, rfl, rfl⟩
  | 0, _ :: _, l', es, h, _ => by simp [dec11] at h
  | k + 1, x :: r, l', es, h, ha => by
    unfold dec11 at h
    split at h
    · rename_i e; cases e
    · rename_i a b c x0 x1 x2 x3 x4 x5 x6 x7 r' ek e
      cases e
      split at h
      · rename_i l hl
        cases h
        cases ha with
        | cons h1 t1 => cases t1 with
          | cons h2 t2 => cases t2 with
            | cons h3 t3 => cases t3 with
              | cons g0 u0 => cases u0 with
                | cons g1 u1 => cases u1 with
                  | cons g2 u2 => cases u2 with
                    | cons g3 u3 => cases u3 with
                      | cons g4 u4 => cases u4 with
                        | cons g5 u5 => cases u5 with
                          | cons g6 u6 => cases u6 with
                            | cons g7 u7 =>
                              obtain ⟨xs, e1, e2, e3⟩ := dec11_ops hl u7
                              rename_i b1 b2 b3 z0 z1 z2 z3 z4 z5 z6 z7 bs
                              refine ⟨⟨a, b, c, z0, z1, z2, z3, z4, z5, z6, z7, fun v hv => ?_⟩ :: xs, ?_, by rw [List.map_cons, e2], by simp [e3]; omega⟩
                              · simp only [List.mem_cons, List.not_mem_nil, or_false] at hv
                                rcases hv with rfl | rfl | rfl | rfl | rfl | rfl | rfl | rfl
                                · exact g0.one
                                · exact g1.one
                                · exact g2.one
                                · exact g3.one
                                · exact g4.one
                                · exact g5.one
                                · exact g6.one
                                · exact g7.one
                              · rw [h1.of_free rfl, h2.of_free rfl, h3.of_free rfl, e1]; rfl
      · cases h
    · cases h

noncomputable def decI (l : List Value) (d e : Int) : Option Value := match dec11 l.length l with | some es => some (.int .i64 (inclIn (fun x : Int × Int × Int => x.1 == d && x.2.1 == e) (fun x => x.2.2) es)) | none => none
noncomputable def inclO : FuncId → List Value → W → Option Re := orcR 208 22 11 decI

theorem incl_map (xs : List OpC) (d e : Int) : inclIn (fun x : Int × Int × Int => x.1 == d && x.2.1 == e) (fun x => x.2.2) (xs.map fun x => (x.d, x.e, x.s)) = inclIn (fun x : OpC => x.d == d && x.e == e) (fun x => x.s) xs := by
  unfold inclIn
  rw [← List.map_reverse, List.find?_map]
  have e1 : ((fun x : Int × Int × Int => x.1 == d && x.2.1 == e) ∘ fun x : OpC => (x.d, x.e, x.s)) = fun x : OpC => x.d == d && x.e == e := rfl
  rw [e1]
  cases xs.reverse.find? fun x => x.d == d && x.e == e <;> rfl

theorem inclO_ok {gB : Gh} {wB : World} : OrcOkH Tryz.prog gB wB inclO := by
  refine orcR_ok fun g k a cap m l l' d e v w hd ha hl hm hcell hc => ?_
  unfold decI at hd
  split at hd
  · rename_i es hes
    cases hd
    obtain ⟨xs, rfl, rfl, e3⟩ := dec11_ops hes ha
    have hn : m = xs.length := by omega
    subst hn
    rw [incl_map]
    exact callsIn_wide.1 (included_in (Fence.wide) 3 trivial trivial trivial rfl (Nat.le_refl _) w k a cap xs d e (by omega) hcell hc)
  · cases hd

noncomputable def deskO : FuncId → List Value → W → Option Re := orc2 lostO inclO
theorem deskO_ok {gB : Gh} {wB : World} : OrcOkH Tryz.prog gB wB deskO := orc2_ok lostO_ok inclO_ok

end Go.Proofs.YtaceajadklmddaaGreat
