/- The law AuditEven: how its pieces go together. -/
import Derived.Test.YtcocconldmhlnaaGreatXd
namespace Go.Proofs.YtcocconldmhlnaaGreat
open Go Go.Cx Go.RowKit

theorem Wn {h : Hp} {n base : Nat} {ds : List (FuncId × List Value)} {rc : Rc} (hb : n = base) : (W.mk h n ds rc).n = base := hb

theorem drop_skip : ∀ k : Nat, dropSeq k Code.skip = .skip
  | 0 => rfl
  | _ + 1 => rfl
theorem drop_add : ∀ (j k : Nat) (c : Code), dropSeq k (dropSeq j c) = dropSeq (j + k) c
  | 0, k, c => by rw [Nat.zero_add]; rfl
  | j + 1, k, c => by
    rw [show j + 1 + k = (j + k) + 1 from by omega]
    cases c with
    | seq x y => exact drop_add j k y
    | _ => exact drop_skip k

noncomputable def o0 : Orc := fun _ _ _ => none
theorem rn4_eq (o : Orc) (c : Code) (env : Env) (U : W) : rn4 o c env U = (cCode Tryz.prog 100000 N4 X4 c).run (cfo o) env U := rfl
theorem pr4_eq (o : Orc) (k : Nat) (c : Code) (env : Env) (U : W) : pr4 o k c env U = preSeq Tryz.prog 100000 N4 X4 (cfo o) k c env U := rfl
theorem o0_ok {gB : Gh} {wB : World} : OrcOkH Tryz.prog gB wB o0 := fun _ _ _ _ _ _ _ _ h => by cases h
theorem cfo_ok {gB : Gh} {wB : World} {o : Orc} (h : OrcOkH Tryz.prog gB wB o) : CfOk Tryz.prog gB wB (cfo o) := evH_ok noNum mixed (orc2_ok h deskO_ok) 100000 100

def Good (r : Ou) : Prop := isB true (ending Tryz.prog cf0 100000 4 w02 r) = true
theorem not_good {y : Nat} : ¬ Good (.no y) := by
  intro h
  cases h
/-- from the j-th statement on, in the state of a number, all goes well -/
def End (n who : Int) (n0 w0 : Nat) (wB : World) (j x : Nat) : Prop := Cx.Ends Tryz.prog ⟨N4, X4, symG (lvE n who n0 w0), wB, w02⟩ (dropSeq j c4) (envD X4 x) (WD X4 x) Good

section
variable {n who : Int} {n0 w0 : Nat} {wB : World} {o : Orc}

theorem End.fin {j x : Nat} (ho : OrcOkH Tryz.prog (symG (lvE n who n0 w0)) wB o) (h : end4 o j x = true) : End n who n0 w0 wB j x := by
  unfold end4 at h
  rw [rn4_eq] at h
  exact Cx.Ends.eval' noNum mixed n4 (cfo_ok ho) (fuel := 100000) (c := dropSeq j c4) rfl (fun y e => not_good (y := y) (by rw [← e]; exact h)) h

theorem End.mid {j k x y : Nat} (ho : OrcOkH Tryz.prog (symG (lvE n who n0 w0)) wB o) (h : okN 2 X4 y (at4 o j k x) = true) (hy : End n who n0 w0 wB (j + k) y) : End n who n0 w0 wB j x := by
  obtain ⟨e, U, h1, h2⟩ := okN_go h
  unfold at4 at h1
  rw [pr4_eq] at h1
  refine Cx.Ends.pre' (N := N4) (xs := X4) noNum mixed n4 (cfo_ok ho) (fuel := 100000) k h1 ?_
  rw [drop_add]
  exact Cx.Ends.num' (base := 2) rfl h2 hy

theorem xs1 : has X4 1 = true := by kernel_rfl
theorem xs0 : has X4 0 = true := by kernel_rfl
theorem End.sub {j k x y : Nat} (h : okN 2 X4 y (atD n0 w0 j k x) = true) (hy : End n who n0 w0 wB (j + k) y) : End n who n0 w0 wB j x := by
  obtain ⟨e, U, h1, h2⟩ := okN_go h
  unfold atD at h1
  rw [pr4_eq] at h1
  refine Cx.Ends.sub' (l := lvE n who n0 w0) (t := 1) (k := 3) (v := numV w0) xs1 (by decide) rfl (fun g => RV.self rfl) ?_
  refine Cx.Ends.sub' (l := lvE n who n0 w0) (t := 0) (k := 2) (v := numV n0) xs0 (by decide) rfl (fun g => RV.self rfl) ?_
  refine Cx.Ends.pre' (N := N4) (xs := X4) noNum mixed n4 (cfo_ok o0_ok) (fuel := 100000) k h1 ?_
  rw [drop_add]
  exact Cx.Ends.num' (base := 2) rfl h2 hy
theorem End.sub0 {j k x y : Nat} (h : okN 2 X4 y (atN j k x) = true) (hy : End n who 0 w0 wB (j + k) y) : End n who 0 w0 wB j x := by
  obtain ⟨e, U, h1, h2⟩ := okN_go h
  unfold atN at h1
  rw [pr4_eq] at h1
  refine Cx.Ends.sub' (l := lvE n who 0 w0) (t := 0) (k := 2) (v := numV 0) xs0 (by decide) rfl (fun g => RV.self rfl) ?_
  refine Cx.Ends.pre' (N := N4) (xs := X4) noNum mixed n4 (cfo_ok o0_ok) (fuel := 100000) k h1 ?_
  rw [drop_add]
  exact Cx.Ends.num' (base := 2) rfl h2 hy

theorem start_calls {x : Nat} (hn : n % 8 = n0) (hw : who % 3 = w0) (h : okN 2 X4 x (startE 4) = true) (hy : End n who n0 w0 wB 4 x) :
    Calls Tryz.prog 4 #[.int .i64 n, .int .i64 who] wB fun e w' => e = .returned (.bool true) ∧ Below wB.heap.size wB w' := by
  refine Cx.Ends.calls (fuel := 100000) (l := lvE n who n0 w0) noNum mixed Tryz.func4 body4 (args := [sy 0, sy 1]) (args' := [.int .i64 n, .int .i64 who]) (by decide) (.cons (symG_rv rfl) (.cons (symG_rv rfl) .nil)) cf0_ok ?_
  obtain ⟨e4, U4, h1, hN⟩ := okN_go h
  unfold startE at h1
  rw [pr4_eq] at h1
  refine Cx.Ends.pre' (N := N4) (xs := X4) noNum mixed n4 (cfo_ok (orcV_ok (orcA_ok hn hw))) (fuel := 100000) 4 h1 ?_
  exact Cx.Ends.num' (base := 2) rfl hN hy

end
end Go.Proofs.YtcocconldmhlnaaGreat
