/- The law WorldLoses: how its pieces go together. -/
import Derived.Test.YtcocconldmhlnaaGreatWe
import Derived.Test.YtcocconldmhlnaaGreatWd
namespace Go.Proofs.YtcocconldmhlnaaGreat
open Go Go.Cx Go.RowKit

theorem Wn {h : Hp} {n base : Nat} {ds : List (FuncId × List Value)} {rc : Rc} (hb : n = base) : (W.mk h n ds rc).n = base := hb

theorem drop_skip : ∀ k : Nat, dropSeq k Code.skip = .skip
  | 0 => rfl
  | _ + 1 => rfl
theorem drop_add : ∀ (j k : Nat) (c : Code), dropSeq k (dropSeq j c) = dropSeq (j + k) c
  | 0, k, c => by rw [Nat.zero_add]; rfl
  | j + 1, k, c => by
    rw [show j + 1 + k = (j + k) + 1 from by omega]
    cases c with
    | seq x y => exact drop_add j k y
    | _ => exact drop_skip k

theorem rn3_eq (o : Orc) (c : Code) (env : Env) (U : W) : rn3 o c env U = (cCode Tryz.prog 100000 N3 X3 c).run (cfo o) env U := rfl
theorem pr3_eq (o : Orc) (k : Nat) (c : Code) (env : Env) (U : W) : pr3 o k c env U = preSeq Tryz.prog 100000 N3 X3 (cfo o) k c env U := rfl
theorem rn11_eq (c : Code) (env : Env) (U : W) : rn11 c env U = (cCode Tryz.prog 100000 N11 X11 c).run cf0 env U := rfl
theorem pr11_eq (k : Nat) (c : Code) (env : Env) (U : W) : pr11 k c env U = preSeq Tryz.prog 100000 N11 X11 cf0 k c env U := rfl
theorem o0_ok {gB : Gh} {wB : World} : OrcOkH Tryz.prog gB wB o0 := fun _ _ _ _ _ _ _ _ h => by cases h
theorem cfo_ok {gB : Gh} {wB : World} {o : Orc} (h : OrcOkH Tryz.prog gB wB o) : CfOk Tryz.prog gB wB (cfo o) := evH_ok noNum mixed (orc2_ok h deskO_ok) 100000 100

/- Lose. -/
theorem body11 : Tryz.f11.body = some c11 := by kernel_rfl
theorem n11 : N11 ≤ 256 := by decide +kernel
noncomputable def end11 (xs x y : Nat) : Re := ending Tryz.prog cf0 100000 11 ⟨bld (lD xs x), nD xs x, [], .off⟩ (rn11 (dropSeq 2 c11) (envD X11 y) (WD X11 y))
theorem lose_S {gB : Gh} {wB : World} {xs x y p i v base : Nat} (hb : nD xs x = base) (h : okN base X11 y (go11 xs x p i) = true) (he : end11 xs x y = .ok (numV v) ⟨bld (lD X11 y), nD X11 y, [], .off⟩) :
    OrcOkH Tryz.prog gB wB (loseO xs x p i v y) := by
  refine orcS_ok ?_
  obtain ⟨e, U, h1, h2⟩ := okN_go h
  unfold go11 at h1
  rw [pr11_eq] at h1
  refine CallS.of noNum mixed Tryz.func11 body11 (show 2 ≤ 256 by decide) (fuel := 100000) cf0_ok ?_
  refine Cx.Ends.pre' (N := N11) (xs := X11) noNum mixed n11 cf0_ok (fuel := 100000) 2 h1 ?_
  refine Cx.Ends.num' hb h2 ?_
  unfold end11 at he
  rw [rn11_eq] at he
  refine Cx.Ends.eval' noNum mixed n11 cf0_ok (fuel := 100000) (c := dropSeq 2 c11) rfl (fun y e => ?_) he
  rw [e] at he
  cases he

/- The law's body. -/
abbrev lv (ops : Int) (speak : Bool) (n0 : Nat) : List Value := [.int .i64 ops, .bool speak, .int .i64 n0]
def Good (r : Ou) : Prop := isB true (ending Tryz.prog cf0 100000 3 w02 r) = true
theorem not_good {y : Nat} : ¬ Good (.no y) := by
  intro h
  cases h
/-- from the j-th statement on, in the state of a number, all goes well -/
def End (ops : Int) (speak : Bool) (n0 : Nat) (wB : World) (j x : Nat) : Prop := Cx.Ends Tryz.prog ⟨N3, X3, symG (lv ops speak n0), wB, w02⟩ (dropSeq j c3) (envD X3 x) (WD X3 x) Good

section
variable {ops : Int} {speak : Bool} {n0 : Nat} {wB : World} {o : Orc}

theorem End.fin {j x : Nat} (ho : OrcOkH Tryz.prog (symG (lv ops speak n0)) wB o) (h : end3 o j x = true) : End ops speak n0 wB j x := by
  unfold end3 at h
  rw [rn3_eq] at h
  exact Cx.Ends.eval' noNum mixed n3 (cfo_ok ho) (fuel := 100000) (c := dropSeq j c3) rfl (fun y e => not_good (y := y) (by rw [← e]; exact h)) h

theorem End.mid {j k x y : Nat} (ho : OrcOkH Tryz.prog (symG (lv ops speak n0)) wB o) (h : okN 2 X3 y (at3 o j k x) = true) (hy : End ops speak n0 wB (j + k) y) : End ops speak n0 wB j x := by
  obtain ⟨e, U, h1, h2⟩ := okN_go h
  unfold at3 at h1
  rw [pr3_eq] at h1
  refine Cx.Ends.pre' (N := N3) (xs := X3) noNum mixed n3 (cfo_ok ho) (fuel := 100000) k h1 ?_
  rw [drop_add]
  exact Cx.Ends.num' (base := 2) rfl h2 hy

theorem xs1 : has X3 1 = true := by kernel_rfl
theorem xs0 : has X3 0 = true := by kernel_rfl
theorem End.sub {j k x y : Nat} {b : Bool} (hb : speak = b) (ho : OrcOkH Tryz.prog (symG (lv ops speak n0)) wB o) (h : okN 2 X3 y (at3b o j k b x) = true) (hy : End ops speak n0 wB (j + k) y) : End ops speak n0 wB j x := by
  subst hb
  obtain ⟨e, U, h1, h2⟩ := okN_go h
  unfold at3b at h1
  rw [pr3_eq] at h1
  refine Cx.Ends.sub' (l := lv ops speak n0) (t := 1) (k := 1) (v := .bool speak) xs1 (by decide) rfl (fun g => RV.self rfl) ?_
  refine Cx.Ends.pre' (N := N3) (xs := X3) noNum mixed n3 (cfo_ok ho) (fuel := 100000) k h1 ?_
  rw [drop_add]
  exact Cx.Ends.num' (base := 2) rfl h2 hy

theorem start_calls {x : Nat} {ro : Orc} (hn : ops % 6 = n0) (hr : OrcOkH Tryz.prog (symG (lv ops speak n0)) wB ro) (h : okN 2 X3 x (startA ro n0) = true) (hy : End ops speak n0 wB 5 x) :
    Calls Tryz.prog 3 #[.int .i64 ops, .bool speak] wB fun e w' => e = .returned (.bool true) ∧ Below wB.heap.size wB w' := by
  refine Cx.Ends.calls (fuel := 100000) (l := lv ops speak n0) noNum mixed Tryz.func3 body3 (args := [sy 0, sy 1]) (args' := [.int .i64 ops, .bool speak]) (by decide) (.cons (symG_rv rfl) (.cons (symG_rv rfl) .nil)) cf0_ok ?_
  obtain ⟨e4, U4, h4, hN⟩ := okN_go h
  unfold startA at h4
  obtain ⟨e1, U1, h1, h2⟩ := thn_go h4
  rw [pr3_eq] at h1 h2
  have horc : OrcOk Tryz.prog (symG (lv ops speak n0)) wB (orc 0 6 (sy 2)) := orc_ok (x := ops) rfl (by decide) (by decide) fun g hg => by
    have hx : ((6 : Nat) : Int) = 6 := rfl
    rw [hx, hn]
    exact (symG_rv (l := lv ops speak n0) (k := 2) rfl).mono hg
  refine Cx.Ends.pre' (N := N3) (xs := X3) noNum mixed n3 (cfo_ok (orc2_ok (orcV_ok horc) hr)) (fuel := 100000) 4 h1 ?_
  refine Cx.Ends.sub' (l := lv ops speak n0) (t := 0) (k := 2) (v := numV n0) xs0 (by decide) rfl (fun g => RV.self rfl) ?_
  refine Cx.Ends.pre' (N := N3) (xs := X3) noNum mixed n3 (cfo_ok o0_ok) (fuel := 100000) 1 h2 ?_
  rw [drop_add]
  exact Cx.Ends.num' (base := 2) rfl hN hy

end
end Go.Proofs.YtcocconldmhlnaaGreat
