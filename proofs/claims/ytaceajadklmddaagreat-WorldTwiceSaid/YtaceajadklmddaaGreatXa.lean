/- The law WorldTwice: what calls are. -/
import Derived.Test.YtaceajadklmddaaGreatWb
namespace Go.Proofs.YtaceajadklmddaaGreat
open Go Go.Cx Go.RowKit

abbrev Orc := FuncId → List Value → W → Option Re
noncomputable def o0 : Orc := fun _ _ _ => none
theorem o0_ok {gB : Gh} {wB : World} : OrcOkH Tryz.prog gB wB o0 := fun _ _ _ _ _ _ _ _ h => by cases h
noncomputable def cfo (o : Orc) : CallF := evH Tryz.prog 100000 (orc2 o deskR) 100
theorem cfo_ok {gB : Gh} {wB : World} {o : Orc} (h : OrcOkH Tryz.prog gB wB o) : CfOk Tryz.prog gB wB (cfo o) := evH_ok noNum mixed (orc2_ok h deskR_ok) 100000 100
theorem Wn {h : Hp} {n base : Nat} {ds : List (FuncId × List Value)} {rc : Rc} (hb : n = base) : (W.mk h n ds rc).n = base := hb
theorem drop_skip : ∀ k : Nat, dropSeq k Code.skip = .skip
  | 0 => rfl
  | _ + 1 => rfl
theorem drop_add : ∀ (j k : Nat) (c : Code), dropSeq k (dropSeq j c) = dropSeq (j + k) c
  | 0, k, c => by rw [Nat.zero_add]; rfl
  | j + 1, k, c => by
    rw [show j + 1 + k = (j + k) + 1 from by omega]
    cases c with
    | seq x y => exact drop_add j k y
    | _ => exact drop_skip k

noncomputable def pw : Value := .pointer (some ⟨2, 0, none⟩)
noncomputable def pa (j : Nat) : Value := .pointer (some ⟨j, 0, none⟩)
noncomputable def jk : Value := .complex .f32 0 1
/-- a call of a method of the world with one number: it answers v, the world is y then -/
noncomputable def eq1 (f x : Nat) (k v : Value) (y : Nat) : Bool := isoC y 2 [pw, v] [pw] (cf0 f [pw, k] (WD 1 x))
noncomputable def eq0 (f x : Nat) (v : Value) (y : Nat) : Bool := isoC y 2 [pw, v] [pw] (cf0 f [pw] (WD 1 x))
noncomputable def eq2 (f x : Nat) (k m v : Value) (y : Nat) : Bool := isoC y 2 [pw, v] [pw] (cf0 f [pw, k, m] (WD 1 x))
theorem call1 {f x y : Nat} {k v : Value} (h : eq1 f x k v y = true) (hk : cellV k = true) {w0 w : World} {u : Value} (hw : AtV x w0 [pw] [u] w) : Calls Tryz.prog f ⟨[u, k]⟩ w fun e w' => ∃ v', e = .returned v' ∧ AtV y w0 [pw, v] [u, v'] w' :=
  AtV.call (av := [pw]) (bv := [u]) (args := [pw, k]) cf0_ok (fun g hA => by cases hA with | cons h1 h2 => exact .cons h1 (.cons (RV.self hk) .nil)) h hw
theorem call0 {f x y : Nat} {v : Value} (h : eq0 f x v y = true) {w0 w : World} {u : Value} (hw : AtV x w0 [pw] [u] w) : Calls Tryz.prog f ⟨[u]⟩ w fun e w' => ∃ v', e = .returned v' ∧ AtV y w0 [pw, v] [u, v'] w' :=
  AtV.call (av := [pw]) (bv := [u]) (args := [pw]) cf0_ok (fun _ hA => hA) h hw
theorem call2 {f x y : Nat} {k m v : Value} (h : eq2 f x k m v y = true) (hk : cellV k = true) (hm : cellV m = true) {w0 w : World} {u : Value} (hw : AtV x w0 [pw] [u] w) : Calls Tryz.prog f ⟨[u, k, m]⟩ w fun e w' => ∃ v', e = .returned v' ∧ AtV y w0 [pw, v] [u, v'] w' :=
  AtV.call (av := [pw]) (bv := [u]) (args := [pw, k, m]) cf0_ok (fun g hA => by cases hA with | cons h1 h2 => exact .cons h1 (.cons (RV.self hk) (.cons (RV.self hm) .nil))) h hw
/-- a call with something of the world -/
noncomputable def eqM (f x j : Nat) (l : List Value) (v : Value) (y : Nat) : Bool := isoC y 2 [pw, jk, v] [pw, pa j] (cf0 f (pa j :: l) (WD 1 x))
theorem callM {f x j y : Nat} {l : List Value} {v : Value} (h : eqM f x j l v y = true) (hl : ∀ g, All2 (RV g) l l) {w0 w : World} {u m : Value} (hw : AtV x w0 [pw, pa j] [u, m] w) : Calls Tryz.prog f ⟨m :: l⟩ w fun e w' => ∃ v', e = .returned v' ∧ AtV y w0 [pw, jk, v] [u, m, v'] w' :=
  AtV.call (av := [pw, pa j]) (bv := [u, m]) (args := pa j :: l) cf0_ok (fun g hA => by cases hA with | cons h1 h2 => cases h2 with | cons h3 _ => exact .cons h3 (hl g)) h hw

noncomputable def c4 : Code := match Tryz.f4.body with | some c => c | none => .skip
theorem body4 : Tryz.f4.body = some c4 := by kernel_rfl
noncomputable def N4 : Nat := Tryz.f4.ntmps
noncomputable def X4 : Nat := xsOf Tryz.f4 c4
theorem n4 : N4 ≤ 256 := by decide +kernel
noncomputable def rn4 (c : Code) (env : Env) (U : W) : Ou := (cCode Tryz.prog 100000 N4 X4 c).run cf0 env U
noncomputable def in4 (k : Nat) (args : List Value) (U : W) : Ou := preSeq Tryz.prog 100000 N4 X4 cf0 k c4 (env0 args 0 env00) U
noncomputable def to4 (o : FuncId → List Value → W → Option Re) (j k x : Nat) : Ou := preSeq Tryz.prog 100000 N4 X4 (cfo o) k (dropSeq j c4) (envD X4 x) (WD X4 x)
theorem call4 {gB : Gh} {wB : World} {args : List Value} {l0 : List (Nat × Ob)} {n0 q m b x z : Nat} {v : Value} {o : FuncId → List Value → W → Option Re} (hl : args.length ≤ 256) (hb : n0 = b) (h1 : okN b X4 x (in4 q args ⟨bld l0, n0, [], .off⟩) = true) (ho : OrcOkH Tryz.prog gB wB o) (h2 : okN b X4 z (to4 o q m x) = true)
    (h3 : ending Tryz.prog cf0 100000 4 ⟨bld l0, n0, [], .off⟩ (rn4 (dropSeq (q + m) c4) (envD X4 z) (WD X4 z)) = .ok v ⟨bld (lD X4 z), nD X4 z, [], .off⟩) : CallS Tryz.prog gB wB 4 args l0 n0 v (lD X4 z) (nD X4 z) := by
  obtain ⟨e1, U1, a1, a2⟩ := okN_go h1
  obtain ⟨e2, U2, b1, b2⟩ := okN_go h2
  unfold in4 at a1
  unfold to4 at b1
  refine CallS.of noNum mixed Tryz.func4 body4 hl (fuel := 100000) cf0_ok ?_
  refine Cx.Ends.pre' (N := N4) (xs := X4) noNum mixed n4 cf0_ok (fuel := 100000) q a1 ?_
  refine Cx.Ends.num' hb a2 ?_
  refine Cx.Ends.pre' (N := N4) (xs := X4) noNum mixed n4 (cfo_ok ho) (fuel := 100000) m b1 ?_
  rw [drop_add]
  refine Cx.Ends.num' hb b2 ?_
  have hk := h3
  unfold rn4 at hk
  refine Cx.Ends.eval' noNum mixed n4 cf0_ok (fuel := 100000) (c := dropSeq (q + m) c4) rfl (fun y e => ?_) hk
  rw [e] at hk
  cases hk

noncomputable def c5 : Code := match Tryz.f5.body with | some c => c | none => .skip
theorem body5 : Tryz.f5.body = some c5 := by kernel_rfl
noncomputable def N5 : Nat := Tryz.f5.ntmps
noncomputable def X5 : Nat := xsOf Tryz.f5 c5
theorem n5 : N5 ≤ 256 := by decide +kernel
noncomputable def rn5 (c : Code) (env : Env) (U : W) : Ou := (cCode Tryz.prog 100000 N5 X5 c).run cf0 env U
noncomputable def in5 (k : Nat) (args : List Value) (U : W) : Ou := preSeq Tryz.prog 100000 N5 X5 cf0 k c5 (env0 args 0 env00) U
noncomputable def to5 (o : FuncId → List Value → W → Option Re) (j k x : Nat) : Ou := preSeq Tryz.prog 100000 N5 X5 (cfo o) k (dropSeq j c5) (envD X5 x) (WD X5 x)
theorem call5 {gB : Gh} {wB : World} {args : List Value} {l0 : List (Nat × Ob)} {n0 q m b x z : Nat} {v : Value} {o : FuncId → List Value → W → Option Re} (hl : args.length ≤ 256) (hb : n0 = b) (h1 : okN b X5 x (in5 q args ⟨bld l0, n0, [], .off⟩) = true) (ho : OrcOkH Tryz.prog gB wB o) (h2 : okN b X5 z (to5 o q m x) = true)
    (h3 : ending Tryz.prog cf0 100000 5 ⟨bld l0, n0, [], .off⟩ (rn5 (dropSeq (q + m) c5) (envD X5 z) (WD X5 z)) = .ok v ⟨bld (lD X5 z), nD X5 z, [], .off⟩) : CallS Tryz.prog gB wB 5 args l0 n0 v (lD X5 z) (nD X5 z) := by
  obtain ⟨e1, U1, a1, a2⟩ := okN_go h1
  obtain ⟨e2, U2, b1, b2⟩ := okN_go h2
  unfold in5 at a1
  unfold to5 at b1
  refine CallS.of noNum mixed Tryz.func5 body5 hl (fuel := 100000) cf0_ok ?_
  refine Cx.Ends.pre' (N := N5) (xs := X5) noNum mixed n5 cf0_ok (fuel := 100000) q a1 ?_
  refine Cx.Ends.num' hb a2 ?_
  refine Cx.Ends.pre' (N := N5) (xs := X5) noNum mixed n5 (cfo_ok ho) (fuel := 100000) m b1 ?_
  rw [drop_add]
  refine Cx.Ends.num' hb b2 ?_
  have hk := h3
  unfold rn5 at hk
  refine Cx.Ends.eval' noNum mixed n5 cf0_ok (fuel := 100000) (c := dropSeq (q + m) c5) rfl (fun y e => ?_) hk
  rw [e] at hk
  cases hk

noncomputable def c3 : Code := match Tryz.f3.body with | some c => c | none => .skip
noncomputable def N3 : Nat := Tryz.f3.ntmps
noncomputable def X3 : Nat := xsOf Tryz.f3 c3
theorem n3 : Tryz.f3.ntmps ≤ 256 := by decide +kernel
noncomputable def tailC : Code := dropSeq 8 c3
/-- the law's last statements, with n in its first slot, in the world x -/
noncomputable def tl (n x : Nat) : Bool := lastV Tryz.prog X3 Tryz.f3 ((cCode Tryz.prog 100000 Tryz.f3.ntmps X3 tailC).run cf0 ((putE 0).run (numV n) ((putE 7).run pw env00)) (WD 1 x))
theorem tail_wp {n x : Nat} (h : tl n x = true) {w0 w : World} {u : Value} {a : Act} (hw : AtV x w0 [pw] [u] w) (h0 : a.tmps.getD 0 undef = numV n) (h7 : a.tmps.getD 7 undef = u) (hsz : Tryz.f3.ntmps ≤ a.tmps.size) (hd : a.defers = []) :
    tailC.wp Tryz.prog (bodyPost Tryz.prog Tryz.f3 fun e w' => e = .returned (.bool true) ∧ Below w0.heap.size w0 w') a w := by
  obtain ⟨g, B, hB, hv⟩ := hw
  cases hv with
  | cons h1 _ =>
    refine wp_last noNum mixed cf0_ok n3 hB rfl rfl (slots2 (by decide) (by decide) (by decide) ?_ ?_) hsz hd h
    · rw [show tmA a 0 = numV n from h0]; exact RV.self rfl
    · rw [show tmA a 7 = u from h7]; exact h1

end Go.Proofs.YtaceajadklmddaaGreat
