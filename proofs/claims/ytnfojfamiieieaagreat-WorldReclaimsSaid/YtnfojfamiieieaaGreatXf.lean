/- The law WorldReclaims: how its pieces go together. -/
import Derived.Test.YtnfojfamiieieaaGreatXd
namespace Go.Proofs.YtnfojfamiieieaaGreat
open Go Go.Cx Go.RowKit

theorem Wn {h : Hp} {n base : Nat} {ds : List (FuncId × List Value)} {rc : Rc} (hb : n = base) : (W.mk h n ds rc).n = base := hb
theorem drop_skip : ∀ k : Nat, dropSeq k Code.skip = .skip
  | 0 => rfl
  | _ + 1 => rfl
theorem drop_add : ∀ (j k : Nat) (c : Code), dropSeq k (dropSeq j c) = dropSeq (j + k) c
  | 0, k, c => by rw [Nat.zero_add]; rfl
  | j + 1, k, c => by
    rw [show j + 1 + k = (j + k) + 1 from by omega]
    cases c with
    | seq x y => exact drop_add j k y
    | _ => exact drop_skip k
theorem rn3_eq (o : Orc) (c : Code) (env : Env) (U : W) : rn3 o c env U = (cCode Tryz.prog 100000 N3 X3 c).run (cfo o) env U := rfl
theorem pr3_eq (o : Orc) (k : Nat) (c : Code) (env : Env) (U : W) : pr3 o k c env U = preSeq Tryz.prog 100000 N3 X3 (cfo o) k c env U := rfl
theorem o0_ok {gB : Gh} {wB : World} : OrcOkH Tryz.prog gB wB o0 := fun _ _ _ _ _ _ _ _ h => by cases h
theorem cfo_ok {gB : Gh} {wB : World} {o : Orc} (h : OrcOkH Tryz.prog gB wB o) : CfOk Tryz.prog gB wB (cfo o) := evH_ok noNum mixed (orc2_ok h deskR_ok) 100000 100
theorem okQ_go {T : List Value} {base xs y : Nat} {r : Ou} (h : okQ T base xs y r = true) : ∃ e U, r = .go e U ∧ isQ (qT T) base xs y e U = true := by
  cases r with
  | go e U => exact ⟨e, U, rfl, h⟩
  | _ => cases h
def Good (r : Ou) : Prop := isB true (ending Tryz.prog cf0 100000 3 w02 r) = true
theorem not_good {y : Nat} : ¬ Good (.no y) := by
  intro h
  cases h

section
variable {ticks wait : Int} {down : Bool} {t v : Nat} {wB : World} {o : Orc}
/-- from the j-th statement on, in the state of a number, all goes well -/
def End (ticks wait : Int) (down : Bool) (t v : Nat) (wB : World) (j x : Nat) : Prop := Cx.Ends Tryz.prog ⟨N3, X3, symG (lvR ticks wait down t v), wB, w02⟩ (dropSeq j c3) (envD X3 x) (WD X3 x) Good

theorem End.mid {j k x y : Nat} (ho : OrcOkH Tryz.prog (symG (lvR ticks wait down t v)) wB o) (h : okN 2 X3 y (at3 o j k x) = true) (hy : End ticks wait down t v wB (j + k) y) : End ticks wait down t v wB j x := by
  obtain ⟨e, U, h1, h2⟩ := okN_go h
  unfold at3 at h1
  rw [pr3_eq] at h1
  refine Cx.Ends.pre' (N := N3) (xs := X3) noNum mixed n3 (cfo_ok ho) (fuel := 100000) k h1 ?_
  rw [drop_add]
  exact Cx.Ends.num' (base := 2) rfl h2 hy

theorem End.sym {j k x y : Nat} (ho : OrcOkH Tryz.prog (symG (lvR ticks wait down t v)) wB o) (h : okQ (lvR ticks wait down t v) 2 X3 y (at3 o j k x) = true) (hy : End ticks wait down t v wB (j + k) y) : End ticks wait down t v wB j x := by
  obtain ⟨e, U, h1, h2⟩ := okQ_go h
  unfold at3 at h1
  rw [pr3_eq] at h1
  refine Cx.Ends.pre' (N := N3) (xs := X3) noNum mixed n3 (cfo_ok ho) (fuel := 100000) k h1 ?_
  rw [drop_add]
  exact Cx.Ends.symQ (base := 2) rfl (by decide) h2 hy

theorem xs1 : has X3 1 = true := by kernel_rfl
theorem xs2 : has X3 2 = true := by kernel_rfl
theorem End.last {lo hi x : Nat} {b : Bool} (hb : down = b) (h1 : lo ≤ t) (h2 : t ≤ hi) (hlo : lo < 1048576) (hhi : hi < 1048576) (hl : linS 3 lo hi 2 0 X3 x = true) (h : endL lo hi v b x = true) : End ticks wait down t v wB 8 x := by
  subst hb
  unfold endL at h
  rw [rn3_eq] at h
  refine Cx.Ends.lin (T := lvR ticks wait down t v) (k0 := 3) (n := t) (base := 2) rfl (by decide) rfl h1 h2 hlo hhi hl ?_
  refine Cx.Ends.sub' (l := lvR ticks wait down t v) (t := 1) (k := 4) (v := numV v) xs1 (by decide) rfl (fun g => RV.self rfl) ?_
  refine Cx.Ends.sub' (l := lvR ticks wait down t v) (t := 2) (k := 2) (v := .bool down) xs2 (by decide) rfl (fun g => RV.self rfl) ?_
  exact Cx.Ends.eval' noNum mixed n3 (cfo_ok o0_ok) (fuel := 100000) (c := dropSeq 8 c3) rfl (fun y e => not_good (y := y) (by rw [← e]; exact h)) h

theorem start_calls {x : Nat} {ro : Orc} (hr : OrcOkH Tryz.prog (symG (lvR ticks wait down t v)) wB ro) (h : okN 2 X3 x (startA ro) = true) (hy : End ticks wait down t v wB 3 x) :
    Calls Tryz.prog 3 #[.int .i64 ticks, .int .i64 wait, .bool down] wB fun e w' => e = .returned (.bool true) ∧ Below wB.heap.size wB w' := by
  refine Cx.Ends.calls (fuel := 100000) (l := lvR ticks wait down t v) noNum mixed Tryz.func3 body3 (args := [sy 0, sy 1, sy 2]) (args' := [.int .i64 ticks, .int .i64 wait, .bool down]) (by decide) (.cons (symG_rv rfl) (.cons (symG_rv rfl) (.cons (symG_rv rfl) .nil))) cf0_ok ?_
  obtain ⟨e1, U1, h1, hN⟩ := okN_go h
  unfold startA at h1
  rw [pr3_eq] at h1
  refine Cx.Ends.pre' (N := N3) (xs := X3) noNum mixed n3 (cfo_ok (orc2_ok (orcV_ok orcK_ok) hr)) (fuel := 100000) 3 h1 ?_
  exact Cx.Ends.num' (base := 2) rfl hN hy
end

end Go.Proofs.YtnfojfamiieieaaGreat
