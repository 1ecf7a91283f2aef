/- Worlds: how the rounds of Sync go together. -/
import Derived.Test.YtoignhfhljlnbaaGreatDoorWa
namespace Go.Proofs.YtoignhfhljlnbaaGreatDoor
open Go Go.Cx Go.RowKit

theorem rn113_eq (c : Code) (env : Env) (U : W) : rn113 c env U = (cCode Tryz.prog 100000 N113 X113 c).run cf0 env U := rfl
theorem pr113_eq (k : Nat) (c : Code) (env : Env) (U : W) : pr113 k c env U = preSeq Tryz.prog 100000 N113 X113 cf0 k c env U := rfl
theorem thn_go {r : Ou} {f : Env → W → Ou} {e1 : Env} {U1 : W} (h : thn r f = .go e1 U1) : ∃ e U, r = .go e U ∧ f e U = .go e1 U1 := by
  cases r with
  | go e U => exact ⟨e, U, rfl, h⟩
  | _ => cases h
theorem okN_go {base xs y : Nat} {r : Ou} (h : okN base xs y r = true) : ∃ e U, r = .go e U ∧ isN base xs y e U = true := by
  cases r with
  | go e U => exact ⟨e, U, rfl, h⟩
  | _ => cases h

noncomputable def exE (r : Ou) : Env := match r with | .ex _ e _ => e | _ => env00

section
variable {gB : Gh} {wB : World} {W0 : W} {R : Ou → Prop}

theorem rounds_ends (k : Nat) : ∀ {e e1 : Env} {U U1 : W}, rounds k e U = .go e1 U1 → Cx.EndsL Tryz.prog ⟨N113, X113, gB, wB, W0⟩ xS e1 U1 R → Cx.EndsL Tryz.prog ⟨N113, X113, gB, wB, W0⟩ xS e U R := by
  induction k with
  | zero =>
    intro e e1 U U1 h hy
    have h : Ou.go e U = Ou.go e1 U1 := h
    cases h; exact hy
  | succ k ih =>
    intro e e1 U U1 h hy
    have h : thn (rn113 xS e U) (rounds k) = .go e1 U1 := h
    obtain ⟨e2, U2, h1, h2⟩ := thn_go h
    rw [rn113_eq] at h1
    exact Cx.EndsL.step (Cx.Ends.eval' noNum mixed n113 cf0_ok (fuel := 100000) (c := xS) h1 (fun y e => by cases e) (ih h2 hy))

theorem sync_go {base x y k : Nat} (hb : W0.n = base) (h : okN base X113 y (go113 x k) = true) (hy : Cx.EndsL Tryz.prog ⟨N113, X113, gB, wB, W0⟩ xS (envD X113 y) (WD X113 y) R) :
    Cx.EndsL Tryz.prog ⟨N113, X113, gB, wB, W0⟩ xS (envD X113 x) (WD X113 x) R := by
  obtain ⟨e, U, h1, h2⟩ := okN_go h
  unfold go113 at h1
  exact rounds_ends k h1 (Cx.EndsL.num' hb h2 hy)

/-- how the loop is left, for the call to be good -/
def Left113 (W0 : W) (l' : List (Nat × Ob)) (n' : Nat) : Ou → Prop := OutOf 0 fun r => ending Tryz.prog cf0 100000 113 W0 r = .ok (.tuple #[]) ⟨bld l', n', [], .off⟩

theorem sync_last {x : Nat} {l' : List (Nat × Ob)} {n' : Nat} {e : Env} {U : W} (h : rn113 xS (envD X113 x) (WD X113 x) = .ex 0 e U) (he : ending Tryz.prog cf0 100000 113 W0 (.go e U) = .ok (.tuple #[]) ⟨bld l', n', [], .off⟩) :
    Cx.EndsL Tryz.prog ⟨N113, X113, gB, wB, W0⟩ xS (envD X113 x) (WD X113 x) (Left113 W0 l' n') := by
  refine Cx.EndsL.step ?_
  rw [rn113_eq] at h
  refine Cx.Ends.eval' noNum mixed n113 cf0_ok (fuel := 100000) (c := xS) h (fun y e => by cases e) ?_
  have : Left113 W0 l' n' (.ex 0 e U) := by
    unfold Left113 OutOf
    dsimp only
    rw [if_pos rfl]
    exact he
  exact this

theorem sync_start {xs x y p r k : Nat} {l' : List (Nat × Ob)} {n' base : Nat} (hb : nD xs x = base) (h : okN base X113 y (start113 xs x p r k) = true)
    (hy : Cx.EndsL Tryz.prog ⟨N113, X113, gB, wB, ⟨bld (lD xs x), nD xs x, [], .off⟩⟩ xS (envD X113 y) (WD X113 y) (Left113 ⟨bld (lD xs x), nD xs x, [], .off⟩ l' n')) :
    CallS Tryz.prog gB wB 113 [.pointer (some ⟨p, 0, none⟩), numV r] (lD xs x) (nD xs x) (.tuple #[]) l' n' := by
  obtain ⟨e, U, h1, h2⟩ := okN_go h
  unfold start113 at h1
  obtain ⟨e2, U2, h3, h4⟩ := thn_go h1
  rw [pr113_eq] at h3
  refine CallS.of noNum mixed Tryz.func113 body113 (show 2 ≤ 256 by decide) (fuel := 100000) cf0_ok ?_
  refine Cx.Ends.pre' (N := N113) (xs := X113) noNum mixed n113 cf0_ok (fuel := 100000) 2 h3 ?_
  rw [shape113]
  exact Cx.Ends.block (Cx.Ends.loop (rounds_ends k h4 (Cx.EndsL.num' hb h2 hy)))

end
end Go.Proofs.YtoignhfhljlnbaaGreatDoor
