/- The law ShellStates: lines of a script; what is known of calls. -/
import Derived.Test.YtoignhfhljlnbaaGreatDoorWb
import Derived.Tactics2
import Derived.WalkArith
namespace Go.Proofs.YtoignhfhljlnbaaGreatDoor
open Go Go.Cx Go.RowKit

abbrev Orc := FuncId → List Value → W → Option Re
noncomputable def sy (k : Nat) : Value := .complex .f32 k 2
noncomputable def o0 : Orc := fun _ _ _ => none
theorem o0_ok {gB : Gh} {wB : World} : OrcOkH Tryz.prog gB wB o0 := fun _ _ _ _ _ _ _ _ h => by cases h
noncomputable def cfo (o : Orc) : CallF := evH Tryz.prog 100000 (orc2 o deskR) 100
theorem cfo_ok {gB : Gh} {wB : World} {o : Orc} (h : OrcOkH Tryz.prog gB wB o) : CfOk Tryz.prog gB wB (cfo o) := evH_ok noNum mixed (orc2_ok h deskR_ok) 100000 100
theorem Wn {h : Hp} {n base : Nat} {ds : List (FuncId × List Value)} {rc : Rc} (hb : n = base) : (W.mk h n ds rc).n = base := hb
/-- a value as an answer -/
noncomputable def isV (v : Value) (r : Re) : Bool := match r with | .ok u _ => eqV u v | _ => false
theorem call_val {gB : Gh} {f : FuncId} {args' : List Value} {w : World} {v : Value} {r : Re} (h : CallR Tryz.prog gB w.heap.size w02 w f args' r) (hr : isV v r = true) (hv : free v = true) : Calls Tryz.prog f ⟨args'⟩ w fun e w' => e = .returned v ∧ Below w.heap.size w w' := by
  unfold isV at hr
  split at hr
  · rename_i u b
    have := eqV_eq hr
    subst this
    refine Calls.mono (show Calls Tryz.prog f ⟨args'⟩ w _ from h) ?_
    rintro e w' ⟨v', g', rfl, h1, h2⟩
    rw [h1.of_free hv]
    exact ⟨rfl, kept_below h2⟩
  · cases hr
theorem leaf_of {cf : CallF} {T : List Value} {w : World} {f : FuncId} {args args' : List Value} (hcf : CfOk Tryz.prog (symG T) w cf) (hA : All2 (RV (symG T)) args args') (h : isB true (cf f args w02) = true) : Calls Tryz.prog f ⟨args'⟩ w fun e w' => e = .returned (.bool true) ∧ Below w.heap.size w w' :=
  call_of (gB := symG T) (hcf f args args' (symG T) w.heap.size w02 w ⟨GLe.refl _, Below.refl _ _, Nat.le_refl _, rel_start (symG_one _) w⟩ hA) h
theorem val_of {cf : CallF} {w : World} {f : FuncId} {args args' : List Value} {v : Value} (hcf : CfOk Tryz.prog (symG []) w cf) (hA : All2 (RV (symG [])) args args') (h : isV v (cf f args w02) = true) (hv : free v = true) : Calls Tryz.prog f ⟨args'⟩ w fun e w' => e = .returned v ∧ Below w.heap.size w w' :=
  call_val (gB := symG []) (hcf f args args' (symG []) w.heap.size w02 w ⟨GLe.refl _, Below.refl _ _, Nat.le_refl _, rel_start (symG_one _) w⟩ hA) h hv
noncomputable def c10 : Code := match Tryz.f10.body with | some c => c | none => .skip
theorem body10 : Tryz.f10.body = some c10 := by kernel_rfl
noncomputable def N10 : Nat := Tryz.f10.ntmps
noncomputable def X10 : Nat := xsOf Tryz.f10 c10
theorem n10 : N10 ≤ 256 := by decide +kernel
noncomputable def rn10 (c : Code) (env : Env) (U : W) : Ou := (cCode Tryz.prog 100000 N10 X10 c).run cf0 env U
noncomputable def in10 (o : Orc) (k : Nat) (args : List Value) (U : W) : Ou := preSeq Tryz.prog 100000 N10 X10 (cfo o) k c10 (env0 args 0 env00) U
theorem call10 {T : List Value} {wB : World} {args : List Value} {l0 : List (Nat × Ob)} {n0 q b z : Nat} {v : Value} {o : Orc} (hl : args.length ≤ 256) (hb : n0 = b) (ho : OrcOkH Tryz.prog (symG T) wB o) (h1 : okN b X10 z (in10 o q args ⟨bld l0, n0, [], .off⟩) = true)
    (h3 : ending Tryz.prog cf0 100000 10 ⟨bld l0, n0, [], .off⟩ (rn10 (dropSeq q c10) (envD X10 z) (WD X10 z)) = .ok v ⟨bld (lD X10 z), nD X10 z, [], .off⟩) : CallS Tryz.prog (symG T) wB 10 args l0 n0 v (lD X10 z) (nD X10 z) := by
  obtain ⟨e1, U1, a1, a2⟩ := okN_go h1
  unfold in10 at a1
  refine CallS.of noNum mixed Tryz.func10 body10 hl (fuel := 100000) cf0_ok ?_
  refine Cx.Ends.pre' (N := N10) (xs := X10) noNum mixed n10 (cfo_ok ho) (fuel := 100000) q a1 ?_
  refine Cx.Ends.num' hb a2 ?_
  have hk := h3
  unfold rn10 at hk
  refine Cx.Ends.eval' noNum mixed n10 cf0_ok (fuel := 100000) (c := dropSeq q c10) rfl (fun y e => ?_) hk
  rw [e] at hk
  cases hk

theorem tmod_pos {x n : Int} (h : 0 < n) (ht : 0 ≤ x.tmod n) : x.tmod n = x % n := by
  have h1 := Int.tmod_add_mul_tdiv x n
  have h2 : x.tmod n < n := Int.tmod_lt_of_pos x h
  have h3 : x % n = (x.tmod n + n * x.tdiv n) % n := by rw [h1]
  rw [Int.add_mul_emod_self_left, Int.emod_eq_of_lt ht h2] at h3
  exact h3.symm
theorem tmod_neg {x n : Int} (h : 0 < n) (ht : x.tmod n < 0) : x.tmod n + n = x % n ∧ 0 ≤ x.tmod n + n ∧ x.tmod n + n < n := by
  have h1 := Int.tmod_add_mul_tdiv x n
  have h2 : -n < x.tmod n := Int.lt_tmod_of_pos x h
  have h3 : x % n = (x.tmod n + n * x.tdiv n) % n := by rw [h1]
  rw [Int.add_mul_emod_self_left] at h3
  have h5 : (x.tmod n + n) % n = x.tmod n + n := Int.emod_eq_of_lt (by omega) (by omega)
  rw [Int.add_emod_right] at h5
  exact ⟨by rw [h3, h5], by omega, by omega⟩

set_option maxHeartbeats 400000 in
theorem within_calls (x n : Int) (hn : 0 < n) (hn2 : n < 9223372036854775808) (w : World) : Calls Tryz.prog 5 #[.int .i64 x, .int .i64 n] w fun e w' => e = .returned (.int .i64 (x % n)) ∧ w' = w := by
  have hn0 : n ≠ 0 := by omega
  go_enter Tryz.func5, Tryz.ntmps5
  go_wp2
  all_goals go_ret
  · rename_i h
    obtain ⟨h1, h2, h3⟩ := tmod_neg hn h
    rw [h1] at h2 h3
    refine ⟨?_, rfl⟩
    rw [h1]
    have : wrap64 (x % n) = x % n := by unfold wrap64; omega
    simp [this]
  · rename_i h
    refine ⟨?_, rfl⟩
    simp [tmod_pos hn h]

set_option maxRecDepth 1000000 in
/-- the chapter's example -/
theorem known_calls (w : World) : Calls Tryz.prog 4 #[] w fun e w' => e = .returned (.bool true) ∧ Below w.heap.size w w' := by
  have h : isB true (cfo o0 4 [] w02) = true := by kernel_rfl
  exact leaf_of (T := []) (cfo_ok o0_ok) .nil h
abbrev lvT (x0 : Int) (x1 : Bool) : List Value := [.int .i64 x0, .bool x1]
/-- what is known of calls: of the example; of numbers that are taken within bounds; of the script's answer -/
noncomputable def orcL (n0 : Nat) (s a : Value) : FuncId → List Value → Option Value := fun f args => Bool.rec (motive := fun _ => Option Value) (Bool.rec (motive := fun _ => Option Value) (Bool.rec (motive := fun _ => Option Value) none
    (match args with | [v] => Bool.rec (motive := fun _ => Option Value) none (some a) (eqV v s) | _ => none) (Nat.beq f 7))
    (match args with
      | [.complex .f32 0 2, .int .i64 (.ofNat 6)] => some (numV n0)
      | _ => none) (Nat.beq f 5))
    (match args with | [] => some (.bool true) | _ => none) (Nat.beq f 4)
theorem orcL_ok {x0 : Int} {x1 : Bool} {n0 : Nat} {s a : Value} {wB : World} (h0 : x0 % 6 = (n0 : Nat)) (hs : free s = true) (ha : cellV a = true) (hr : ∀ w, Calls Tryz.prog 7 ⟨[s]⟩ w fun e w' => e = .returned a ∧ Below w.heap.size w w') : OrcOk Tryz.prog (symG (lvT x0 x1)) wB (orcL n0 s a) := by
  intro f args args' u h g w hg _ hA
  unfold orcL at h
  cases h5 : Nat.beq f 4 with
  | true =>
    rw [h5] at h
    have := Nat.eq_of_beq_eq_true h5
    subst this
    cases args with
    | cons _ _ => cases h
    | nil =>
      cases h
      cases hA
      refine (known_calls w).mono ?_
      rintro e w' ⟨rfl, hb⟩
      exact ⟨hb, _, rfl, RV.self rfl⟩
  | false =>
  rw [h5] at h
  cases h6 : Nat.beq f 5 with
  | true =>
    rw [h6] at h
    have := Nat.eq_of_beq_eq_true h6
    subst this
    dsimp only at h
    split at h
    · cases h
      cases hA with
      | cons h1 hA =>
        cases hA with
        | cons h2 hA =>
          cases hA
          have e1 := sym_inv (l := lvT x0 x1) (k := 0) hg rfl h1
          have e2 := h2.int
          subst e1; subst e2
          refine (within_calls x0 6 (by omega) (by omega) w).mono ?_
          rintro e w' ⟨rfl, rfl⟩
          refine ⟨Below.refl _ _, _, rfl, ?_⟩
          rw [h0]
          exact RV.self rfl
    · cases h
  | false =>
  rw [h6] at h
  cases h7 : Nat.beq f 7 with
  | false => rw [h7] at h; cases h
  | true =>
    rw [h7] at h
    have := Nat.eq_of_beq_eq_true h7
    subst this
    dsimp only at h
    split at h
    · rename_i v
      cases hv : eqV v s with
      | false => rw [hv] at h; cases h
      | true =>
        rw [hv] at h
        cases h
        have := eqV_eq hv
        subst this
        cases hA with
        | cons h1 hA =>
          cases hA
          rw [h1.of_free hs]
          refine (hr w).mono ?_
          rintro e w' ⟨rfl, hb⟩
          exact ⟨hb, _, rfl, RV.self ha⟩
    · cases h
theorem law_leaf {x0 : Int} {x1 : Bool} {n0 : Nat} {s a : Value} (h0 : x0 % 6 = (n0 : Nat)) (hs : free s = true) (ha : cellV a = true) (hr : ∀ w, Calls Tryz.prog 7 ⟨[s]⟩ w fun e w' => e = .returned a ∧ Below w.heap.size w w')
    (h : isB true (cfo (orcV (orcL n0 s a)) 3 [sy 0, .bool x1] w02) = true) (w : World) :
    Calls Tryz.prog 3 #[.int .i64 x0, .bool x1] w fun e w' => e = .returned (.bool true) ∧ Below w.heap.size w w' := by
  have hA : All2 (RV (symG (lvT x0 x1))) [sy 0, .bool x1] [.int .i64 x0, .bool x1] := (.cons (symG_rv rfl) (.cons (RV.self rfl) .nil))
  exact leaf_of (cfo_ok (orcV_ok (orcL_ok h0 hs ha hr))) hA h

end Go.Proofs.YtoignhfhljlnbaaGreatDoor
