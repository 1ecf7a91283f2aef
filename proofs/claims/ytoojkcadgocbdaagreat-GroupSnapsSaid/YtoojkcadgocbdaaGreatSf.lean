/- The law GroupSnaps: how its pieces go together. -/
import Derived.Test.YtoojkcadgocbdaaGreatSd
namespace Go.Proofs.YtoojkcadgocbdaaGreat
open Go Go.Cx Go.RowKit

theorem Wn {h : Hp} {n base : Nat} {ds : List (FuncId × List Value)} {rc : Rc} (hb : n = base) : (W.mk h n ds rc).n = base := hb

theorem drop_skip : ∀ k : Nat, dropSeq k Code.skip = .skip
  | 0 => rfl
  | _ + 1 => rfl
theorem drop_add : ∀ (j k : Nat) (c : Code), dropSeq k (dropSeq j c) = dropSeq (j + k) c
  | 0, k, c => by rw [Nat.zero_add]; rfl
  | j + 1, k, c => by
    rw [show j + 1 + k = (j + k) + 1 from by omega]
    cases c with
    | seq x y => exact drop_add j k y
    | _ => exact drop_skip k

theorem rn3_eq (o : Orc) (c : Code) (env : Env) (U : W) : rn3 o c env U = (cCode Tryz.prog 100000 N3 X3 c).run (cfo o) env U := rfl
theorem pr3_eq (o : Orc) (k : Nat) (c : Code) (env : Env) (U : W) : pr3 o k c env U = preSeq Tryz.prog 100000 N3 X3 (cfo o) k c env U := rfl
theorem cfo_ok {gB : Gh} {wB : World} {o : Orc} (h : OrcOkH Tryz.prog gB wB o) : CfOk Tryz.prog gB wB (cfo o) := evH_ok noNum mixed h 100000 100

def Good (r : Ou) : Prop := isB true (ending Tryz.prog cf0 100000 3 w02 r) = true
theorem not_good {y : Nat} : ¬ Good (.no y) := by
  intro h
  cases h

section
variable {n away : Int} {m b : Nat} {wB : World} {o : Orc}

/-- from the j-th statement on, in the state of a number, all goes well -/
def End (n away : Int) (m b : Nat) (wB : World) (j x : Nat) : Prop := Cx.Ends Tryz.prog ⟨N3, X3, symG (lvS n away m b), wB, w02⟩ (dropSeq j c3) (envD X3 x) (WD X3 x) Good

theorem End.fin {j x : Nat} (ho : OrcOkH Tryz.prog (symG (lvS n away m b)) wB o) (h : end3 o j x = true) : End n away m b wB j x := by
  unfold end3 at h
  rw [rn3_eq] at h
  exact Cx.Ends.eval' noNum mixed n3 (cfo_ok ho) (fuel := 100000) (c := dropSeq j c3) rfl (fun y e => not_good (y := y) (by rw [← e]; exact h)) h

theorem End.mid {j k x y : Nat} (ho : OrcOkH Tryz.prog (symG (lvS n away m b)) wB o) (h : okN 2 X3 y (at3 o j k x) = true) (hy : End n away m b wB (j + k) y) : End n away m b wB j x := by
  obtain ⟨e, U, h1, h2⟩ := okN_go h
  unfold at3 at h1
  rw [pr3_eq] at h1
  refine Cx.Ends.pre' (N := N3) (xs := X3) noNum mixed n3 (cfo_ok ho) (fuel := 100000) k h1 ?_
  rw [drop_add]
  exact Cx.Ends.num' (base := 2) rfl h2 hy

theorem xs0 : has X3 0 = true := by kernel_rfl
theorem xs1 : has X3 1 = true := by kernel_rfl

theorem start_calls {x : Nat} (hn : 30 + n % 40 = m) (hb : 1 + away % 2 = b) (h : okN 2 X3 x (startS m b) = true) (hy : End n away m b wB 3 x) :
    Calls Tryz.prog 3 #[.int .i64 n, .int .i64 away] wB fun e w' => e = .returned (.bool true) ∧ Below wB.heap.size wB w' := by
  refine Cx.Ends.calls (fuel := 100000) (l := lvS n away m b) noNum mixed Tryz.func3 body3 (args := [sy 0, sy 1]) (args' := [.int .i64 n, .int .i64 away]) (by decide) (.cons (symG_rv rfl) (.cons (symG_rv rfl) .nil)) cf0_ok ?_
  obtain ⟨e4, U4, h1, hN⟩ := okN_go h
  unfold startS at h1
  obtain ⟨e, U, h2, h3⟩ := thn_go h1
  cases hc : (eqV ((getE 0).run e) (numV m) && eqV ((getE 1).run e) (numV b)) with
  | false => rw [hc] at h3; cases h3
  | true =>
    rw [hc] at h3
    cases h3
    rw [Bool.and_eq_true] at hc
    rw [pr3_eq] at h2
    refine Cx.Ends.pre' (N := N3) (xs := X3) noNum mixed n3 (cfo_ok (orcV_ok (orcB_ok hn hb))) (fuel := 100000) 3 h2 ?_
    refine Cx.Ends.unsub' (t := 0) (k := 2) (v := numV m) xs0 (by decide) (l := lvS n away m b) rfl (eqV_eq hc.1) rfl ?_
    refine Cx.Ends.unsub' (t := 1) (k := 3) (v := numV b) xs1 (by decide) (l := lvS n away m b) rfl ?_ rfl ?_
    · unfold putS
      rw [get_put' (by decide) (by decide) (by decide)]
      exact eqV_eq hc.2
    · exact Cx.Ends.num' (base := 2) rfl hN hy

/-- what comes behind the loop -/
def Behind (n away : Int) (m b : Nat) (wB : World) : Ou → Prop := Then Good fun e U => Cx.Ends Tryz.prog ⟨N3, X3, symG (lvS n away m b), wB, w02⟩ c6 e U Good
/-- in the loop -/
def Lp (n away : Int) (m b : Nat) (wB : World) (e : Env) (U : W) : Prop := Cx.EndsL Tryz.prog ⟨N3, X3, symG (lvS n away m b), wB, w02⟩ yL e U (OutOf 0 (Behind n away m b wB))
def LpN (n away : Int) (m b : Nat) (wB : World) (x : Nat) : Prop := Lp n away m b wB (envD X3 x) (WD X3 x)

theorem loop_start {x y : Nat} (h : okN 2 X3 y (startL b x) = true) (hy : LpN n away m b wB y) : End n away m b wB 4 x := by
  obtain ⟨e, U, h1, h2⟩ := okN_go h
  unfold startL at h1
  obtain ⟨e1, U1, h3, h4⟩ := thn_go h1
  rw [pr3_eq] at h3
  rw [rn3_eq] at h4
  refine Cx.Ends.sub' (l := lvS n away m b) (t := 1) (k := 3) (v := numV b) xs1 (by decide) rfl (fun g => RV.self rfl) ?_
  refine Cx.Ends.pre' (N := N3) (xs := X3) noNum mixed n3 (cfo_ok o0_ok) (fuel := 100000) 1 h3 ?_
  rw [drop_add, shapeL]
  refine Cx.Ends.seq (R := Good) (Cx.Ends.seq (R := Behind n away m b wB) ?_)
  refine Cx.Ends.eval' noNum mixed n3 (cfo_ok o0_ok) (fuel := 100000) (c := cR) h4 (fun y e => by cases e) ?_
  exact Cx.Ends.block (Cx.Ends.loop (Cx.EndsL.num' (base := 2) rfl h2 hy))

theorem then_out {R : Ou → Prop} {X : Env → W → Prop} {e : Env} {U : W} (h : R (.go e U)) : Then (OutOf 0 R) X (.ex 0 e U) := by
  have : OutOf 0 R (.ex 0 e U) := by
    unfold OutOf
    dsimp only
    rw [if_pos rfl]
    exact h
  exact this

/-- the loop is left -/
theorem leave {x y k : Nat} (h : okN 2 X3 y (leaveS m k x) = true) (hy : End n away m b wB (6 + k) y) : LpN n away m b wB x := by
  obtain ⟨e, U, h1, h2⟩ := okN_go h
  unfold leaveS thx at h1
  split at h1
  · rename_i e1 U1 hx
    have h1 : pr3 o0 k c6 e1 U1 = .go e U := h1
    rw [rn3_eq] at hx
    rw [pr3_eq] at h1
    refine Cx.EndsL.step (Cx.Ends.sub' (l := lvS n away m b) (t := 0) (k := 2) (v := numV m) xs0 (by decide) rfl (fun g => RV.self rfl) ?_)
    refine Cx.Ends.eval' noNum mixed n3 (cfo_ok o0_ok) (fuel := 100000) (c := yL) hx (fun y e => by cases e) ?_
    refine then_out (R := Behind n away m b wB) ?_
    refine Cx.Ends.pre' (N := N3) (xs := X3) noNum mixed n3 (cfo_ok o0_ok) (fuel := 100000) k h1 ?_
    unfold c6
    rw [drop_add]
    exact Cx.Ends.num' (base := 2) rfl h2 hy
  · cases h1

noncomputable def allN (f : Nat → Bool) (m : Nat) : Bool := Nat.rec (motive := fun _ => Bool) true (fun i ih => f i && ih) m
theorem allN_spec {f : Nat → Bool} : ∀ {m : Nat}, allN f m = true → ∀ i, i < m → f i = true
  | 0, _, i, h => absurd h (by omega)
  | m + 1, ha, i, h => by
    have ha : (f m && allN f m) = true := ha
    rw [Bool.and_eq_true] at ha
    by_cases e : i = m
    · subst e; exact ha.1
    · exact allN_spec ha.2 i (by omega)

/-- the head of the loop's body -/
theorem head_eq (e : Env) (U : W) : rn3 o0 cH e U = Re.rec (motive := fun _ => Ou) (fun v w => .go ((putE 25).run v e) w) (aftO e U (fun v w => .go ((putE 25).run v e) w) (cfo o0)) ((cBin Tryz.prog .lss 3 (.tmp 23) (.tmp 24) 3).run ((getE 6).run e) ((getE 0).run e) U) := by kernel_rfl
theorem less_eq (k m : Nat) (U : W) : (cBin Tryz.prog .lss 3 (.tmp 23) (.tmp 24) 3).run (.int .i64 (.ofNat k)) (.int .i64 (.ofNat m)) U = .ok (.bool (Nat.ble (Nat.succ k) m)) U := by kernel_rfl
theorem opd25 (e : Env) : (opd X3 [] (.tmp 25)).run e [] = (getE 25).run e := by kernel_rfl

/-- a round -/
theorem round_go {e e1 : Env} {U U1 : W} {k : Nat} (hk : k < m) (h : roundS k e U = .go e1 U1) (hy : Lp n away m b wB e1 U1) : Lp n away m b wB e U := by
  unfold roundS at h
  cases hc : (eqV ((getE 6).run e) (numV k) && isSym 2 ((getE 0).run e)) with
  | false => rw [hc] at h; cases h
  | true =>
    rw [hc] at h
    have h : rn3 o0 cT (env25 e) U = .go e1 U1 := h
    rw [Bool.and_eq_true] at hc
    have h6 := eqV_eq hc.1
    have h0 := isSym_spec hc.2
    have hs : subE 0 2 (numV m) e = (putE 0).run (numV m) e := by
      unfold subE
      rw [h0]
      rfl
    have g6 : (getE 6).run ((putE 0).run (numV m) e) = numV k := by rw [get_put' (by decide) (by decide) (by decide)]; exact h6
    have hh : rn3 o0 cH ((putE 0).run (numV m) e) U = .go ((putE 25).run (.bool true) ((putE 0).run (numV m) e)) U := by
      rw [head_eq, g6, get_put]
      have hl := less_eq k m U
      rw [show Nat.ble (Nat.succ k) m = true from Nat.ble_eq_true_of_le hk] at hl
      rw [show numV k = .int .i64 (.ofNat k) from rfl, show numV m = .int .i64 (.ofNat m) from rfl, hl]
    rw [rn3_eq] at hh h
    unfold Lp
    refine Cx.EndsL.step ?_
    refine Cx.Ends.sub' (l := lvS n away m b) (t := 0) (k := 2) (v := numV m) xs0 (by decide) rfl (fun g => RV.self rfl) ?_
    rw [hs, shapeY]
    refine Cx.Ends.seq (Cx.Ends.seq ?_)
    refine Cx.Ends.eval' noNum mixed n3 (cfo_ok o0_ok) (fuel := 100000) (c := cH) hh (fun y e => by cases e) ?_
    refine Cx.Ends.cond (t := true) (by rw [opd25, get_put]; rfl) ?_
    rw [if_pos rfl]
    refine Cx.Ends.eval' noNum mixed n3 (cfo_ok o0_ok) (fuel := 100000) (c := cX) (skip_eq _ _) (fun y e => by cases e) ?_
    refine Cx.Ends.unsubE (l := lvS n away m b) (t := 0) (k := 2) (v := numV m) (env' := env25 e) xs0 (by decide) rfl ?_ rfl ?_ ?_ ?_
    · rw [get_put' (by decide) (by decide) (by decide), get_put]
    · unfold env25
      rw [get_put' (by decide) (by decide) (by decide)]
      exact h0
    · intro q hq hn
      unfold env25
      by_cases e5 : q = 25
      · subst e5
        rw [get_put, get_put]
      · rw [get_put' hq (by decide) e5, get_put' hq (by decide) e5, get_put' hq (by decide) hn]
    · exact Cx.Ends.eval' noNum mixed n3 (cfo_ok o0_ok) (fuel := 100000) (c := cT) h (fun y e => by cases e) hy

theorem rounds_go (c : Nat) : ∀ {k : Nat} {e e1 : Env} {U U1 : W}, k + c ≤ m → roundsS c k e U = .go e1 U1 → Lp n away m b wB e1 U1 → Lp n away m b wB e U := by
  induction c with
  | zero =>
    intro k e e1 U U1 _ h hy
    have h : Ou.go e U = Ou.go e1 U1 := h
    cases h; exact hy
  | succ c ih =>
    intro k e e1 U U1 hk h hy
    have h : thn (roundS k e U) (roundsS c (Nat.succ k)) = .go e1 U1 := h
    obtain ⟨e2, U2, h1, h2⟩ := thn_go h
    exact round_go (by omega) h1 (ih (k := Nat.succ k) (by omega) h2 hy)

theorem loop_go {x y k c : Nat} (hk : k + c ≤ m) (h : okN 2 X3 y (goS x c k) = true) (hy : LpN n away m b wB y) : LpN n away m b wB x := by
  obtain ⟨e, U, h1, h2⟩ := okN_go h
  unfold goS at h1
  exact rounds_go c hk h1 (Cx.EndsL.num' (base := 2) rfl h2 hy)

end

end Go.Proofs.YtoojkcadgocbdaaGreat
