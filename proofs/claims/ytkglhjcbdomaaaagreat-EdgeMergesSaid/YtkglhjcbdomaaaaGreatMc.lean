/- The law EdgeMerges: how its pieces go together. -/
import Derived.Test.YtkglhjcbdomaaaaGreatMb
namespace Go.Proofs.YtkglhjcbdomaaaaGreat
open Go Go.Cx Go.RowKit

noncomputable abbrev lv (n late : Int) (n0 : Nat) : List Value := [.int .i64 n, .int .i64 late, .int .i64 n0]
theorem n3 : N3 ≤ 256 := by decide +kernel
theorem none_ok {l : List Value} {wB : World} : OrcOk Tryz.prog (symG l) wB (fun _ _ => none) := fun _ _ _ _ h => by cases h
theorem cf0_ok {l : List Value} {wB : World} : CfOk Tryz.prog (symG l) wB cf0 := evO_ok noNum mixed none_ok 100000 100

/-- the answer is true -/
def Good (r : Ou) : Prop := isB true (ending Tryz.prog cf0 100000 3 w02 r) = true
/-- how the loop is left -/
def Left (n late : Int) (n0 : Nat) (wB : World) : Ou → Prop := OutOf 2 (Cx.Then Good fun e U => Cx.Ends Tryz.prog ⟨N3, X3, symG (lv n late n0), wB, w02⟩ rest8 e U Good)

theorem thn_go {r : Ou} {f : Env → W → Ou} {e1 : Env} {U1 : W} (h : thn r f = .go e1 U1) : ∃ e U, r = .go e U ∧ f e U = .go e1 U1 := by
  cases r with
  | go e U => exact ⟨e, U, rfl, h⟩
  | _ => cases h
theorem okN_go {y : Nat} {r : Ou} (h : okN y r = true) : ∃ e U, r = .go e U ∧ isN 2 X3 y e U = true := by
  cases r with
  | go e U => exact ⟨e, U, rfl, h⟩
  | _ => cases h

theorem not_good {y : Nat} : ¬ Good (.no y) := by
  intro h
  cases h

theorem rn_eq (cf : CallF) (c : Code) (env : Env) (U : W) : rn cf c env U = (cCode Tryz.prog 100000 N3 X3 c).run cf env U := rfl
theorem pr_eq (cf : CallF) (k : Nat) (c : Code) (env : Env) (U : W) : pr cf k c env U = preSeq Tryz.prog 100000 N3 X3 cf k c env U := rfl

variable {n late : Int} {n0 : Nat} {wB : World}

theorem last_ends {x : Nat} (h : lastB x = true) : Cx.EndsL Tryz.prog ⟨N3, X3, symG (lv n late n0), wB, w02⟩ x3 (envD 2 X3 x) (WD 2 X3 x) (Left n late n0 wB) := by
  refine Cx.EndsL.step ?_
  unfold lastB at h
  cases hr : rn cf0 x3 (envD 2 X3 x) (WD 2 X3 x) with
  | ex i e U =>
    rw [hr] at h
    have h : (Nat.beq i 2 && isB true (ending Tryz.prog cf0 100000 3 w02 (rn cf0 rest8 e U))) = true := h
    rw [Bool.and_eq_true] at h
    have hi := Nat.eq_of_beq_eq_true h.1
    rw [rn_eq] at hr
    refine Cx.Ends.eval' noNum mixed n3 cf0_ok (fuel := 100000) (c := x3) hr (fun y e => by cases e) ?_
    show (if i = 2 then _ else _)
    rw [if_pos hi]
    have h2 := h.2
    rw [rn_eq] at h2
    exact Cx.Ends.eval' noNum mixed n3 cf0_ok (fuel := 100000) (c := rest8) rfl (fun y e' => not_good (y := y) (by rw [← e']; exact h2)) h2
  | go _ _ => rw [hr] at h; cases h
  | ret _ _ => rw [hr] at h; cases h
  | pan _ _ _ => rw [hr] at h; cases h
  | no _ => rw [hr] at h; cases h

theorem round_ends {x y m v : Nat} {vs : List Nat} {R : Ou → Prop} (h : roundB x y m vs = true) (hm : 0 < m) (hm2 : m < 1000000) (hv : late % m = v) (hmem : v ∈ vs) (hy : Cx.EndsL Tryz.prog ⟨N3, X3, symG (lv n late n0), wB, w02⟩ x3 (envD 2 X3 y) (WD 2 X3 y) R) :
    Cx.EndsL Tryz.prog ⟨N3, X3, symG (lv n late n0), wB, w02⟩ x3 (envD 2 X3 x) (WD 2 X3 x) R := by
  unfold roundB at h
  cases hr : fstO x with
  | go e U =>
    rw [hr] at h
    have h : allL (fun v => okN y (postO m v e U)) vs = true := h
    rw [allL_eq, List.all_eq_true] at h
    obtain ⟨e3, U3, h3, hN⟩ := okN_go (h v hmem)
    unfold fstO preO at hr
    unfold postO at h3
    obtain ⟨e1, U1, g1, g2⟩ := thn_go hr
    obtain ⟨e2, U2, g3, g4⟩ := thn_go h3
    rw [rn_eq] at g1 g3 g4
    rw [pr_eq] at g2
    have horc : OrcOk Tryz.prog (symG [.int .i64 n, .int .i64 late, .int .i64 n0]) wB (orc 1 m (numV v)) := orc_ok (x := late) rfl hm hm2 fun g hg => by rw [hv]; exact RV.self rfl
    refine Cx.EndsL.step ?_
    rw [shapeX]
    refine Cx.Ends.seq (Cx.Ends.eval' noNum mixed n3 cf0_ok (fuel := 100000) g1 (fun y e => by cases e) ?_)
    show Cx.Ends Tryz.prog ⟨N3, X3, symG (lv n late n0), wB, w02⟩ (.seq (.block 3 B3) R14) e1 U1 _
    refine Cx.Ends.seq (Cx.Ends.block ?_)
    refine Cx.Ends.pre' noNum mixed n3 cf0_ok (fuel := 100000) 5 g2 ?_
    have hcf : CfOk Tryz.prog (symG (lv n late n0)) wB (cfv 1 m (numV v)) := evO_ok noNum mixed horc 100000 100
    refine Cx.Ends.eval' noNum mixed n3 hcf (fuel := 100000) g3 (fun y e => by cases e) ?_
    show Cx.Ends Tryz.prog ⟨N3, X3, symG (lv n late n0), wB, w02⟩ R14 e2 U2 _
    refine Cx.Ends.eval' noNum mixed n3 cf0_ok (fuel := 100000) g4 (fun y e => by cases e) ?_
    rw [← shapeX]
    exact Cx.EndsL.num' hN hy
  | ex _ _ _ => rw [hr] at h; cases h
  | ret _ _ => rw [hr] at h; cases h
  | pan _ _ _ => rw [hr] at h; cases h
  | no _ => rw [hr] at h; cases h

theorem xs0 : has X3 0 = true := by kernel_rfl

theorem start_calls {x : Nat} (hn : n % 15 = n0) (h : startB n0 x = true) (hy : Cx.EndsL Tryz.prog ⟨N3, X3, symG (lv n late n0), wB, w02⟩ x3 (envD 2 X3 x) (WD 2 X3 x) (Left n late n0 wB)) :
    Calls Tryz.prog 3 #[.int .i64 n, .int .i64 late] wB fun e w' => e = .returned (.bool true) ∧ Below wB.heap.size wB w' := by
  refine Cx.Ends.calls (fuel := 100000) (l := [.int .i64 n, .int .i64 late, .int .i64 n0]) noNum mixed Tryz.func3 body3 (args := [sy 0, sy 1]) (args' := [.int .i64 n, .int .i64 late]) (by decide) (.cons (symG_rv rfl) (.cons (symG_rv rfl) .nil)) cf0_ok ?_
  unfold startB at h
  obtain ⟨e4, U4, h4, hN⟩ := okN_go h
  unfold startO at h4
  obtain ⟨e1, U1, h1, h2⟩ := thn_go h4
  obtain ⟨e3, U3, h3, h5⟩ := thn_go h2
  rw [pr_eq] at h1 h3
  rw [rn_eq] at h5
  have horc : OrcOk Tryz.prog (symG [.int .i64 n, .int .i64 late, .int .i64 n0]) wB (orc 0 15 (sy 2)) := orc_ok (x := n) rfl (by decide) (by decide) fun g hg => by
    have hx : ((15 : Nat) : Int) = 15 := rfl
    rw [hx, hn]
    exact (symG_rv (l := [.int .i64 n, .int .i64 late, .int .i64 n0]) (k := 2) rfl).mono hg
  refine Cx.Ends.pre' noNum mixed n3 (evO_ok noNum mixed horc 100000 100) (fuel := 100000) 3 h1 ?_
  refine Cx.Ends.sub' (l := lv n late n0) (t := 0) (k := 2) (v := numV n0) xs0 (by decide) rfl (fun g => RV.self rfl) ?_
  refine Cx.Ends.pre' noNum mixed n3 cf0_ok (fuel := 100000) 4 h3 ?_
  have e : dropSeq 4 (dropSeq 3 c3) = dropSeq 7 c3 := by kernel_rfl
  rw [e, shape7]
  refine Cx.Ends.seq (Cx.Ends.seq (Cx.Ends.eval' noNum mixed n3 cf0_ok (fuel := 100000) h5 (fun y e => by cases e) ?_))
  show Cx.Ends Tryz.prog ⟨N3, X3, symG (lv n late n0), wB, w02⟩ (.block 2 (.loop x3)) e4 U4 _
  exact Cx.Ends.block (Cx.Ends.loop (Cx.EndsL.num' hN hy))

end Go.Proofs.YtkglhjcbdomaaaaGreat
