/- Worlds: how the rounds of Sync go together. -/
import Derived.Test.YtnfojfamiieieaaGreatWa
namespace Go.Proofs.YtnfojfamiieieaaGreat
open Go Go.Cx Go.RowKit

theorem rn9_eq (c : Code) (env : Env) (U : W) : rn9 c env U = (cCode Tryz.prog 100000 N9 X9 c).run cf0 env U := rfl
theorem pr9_eq (k : Nat) (c : Code) (env : Env) (U : W) : pr9 k c env U = preSeq Tryz.prog 100000 N9 X9 cf0 k c env U := rfl
theorem thn_go {r : Ou} {f : Env → W → Ou} {e1 : Env} {U1 : W} (h : thn r f = .go e1 U1) : ∃ e U, r = .go e U ∧ f e U = .go e1 U1 := by
  cases r with
  | go e U => exact ⟨e, U, rfl, h⟩
  | _ => cases h
theorem okN_go {base xs y : Nat} {r : Ou} (h : okN base xs y r = true) : ∃ e U, r = .go e U ∧ isN base xs y e U = true := by
  cases r with
  | go e U => exact ⟨e, U, rfl, h⟩
  | _ => cases h

noncomputable def exE (r : Ou) : Env := match r with | .ex _ e _ => e | _ => env00

section
variable {gB : Gh} {wB : World} {W0 : W} {R : Ou → Prop}

theorem rounds_ends (k : Nat) : ∀ {e e1 : Env} {U U1 : W}, rounds k e U = .go e1 U1 → Cx.EndsL Tryz.prog ⟨N9, X9, gB, wB, W0⟩ xS e1 U1 R → Cx.EndsL Tryz.prog ⟨N9, X9, gB, wB, W0⟩ xS e U R := by
  induction k with
  | zero =>
    intro e e1 U U1 h hy
    have h : Ou.go e U = Ou.go e1 U1 := h
    cases h; exact hy
  | succ k ih =>
    intro e e1 U U1 h hy
    have h : thn (rn9 xS e U) (rounds k) = .go e1 U1 := h
    obtain ⟨e2, U2, h1, h2⟩ := thn_go h
    rw [rn9_eq] at h1
    exact Cx.EndsL.step (Cx.Ends.eval' noNum mixed n9 cf0_ok (fuel := 100000) (c := xS) h1 (fun y e => by cases e) (ih h2 hy))

theorem sync_go {base x y k : Nat} (hb : W0.n = base) (h : okN base X9 y (go9 x k) = true) (hy : Cx.EndsL Tryz.prog ⟨N9, X9, gB, wB, W0⟩ xS (envD X9 y) (WD X9 y) R) :
    Cx.EndsL Tryz.prog ⟨N9, X9, gB, wB, W0⟩ xS (envD X9 x) (WD X9 x) R := by
  obtain ⟨e, U, h1, h2⟩ := okN_go h
  unfold go9 at h1
  exact rounds_ends k h1 (Cx.EndsL.num' hb h2 hy)

/-- how the loop is left, for the call to be good -/
def Left9 (W0 : W) (l' : List (Nat × Ob)) (n' : Nat) : Ou → Prop := OutOf 0 fun r => ending Tryz.prog cf0 100000 9 W0 r = .ok (.tuple #[]) ⟨bld l', n', [], .off⟩

theorem sync_last {x : Nat} {l' : List (Nat × Ob)} {n' : Nat} {e : Env} {U : W} (h : rn9 xS (envD X9 x) (WD X9 x) = .ex 0 e U) (he : ending Tryz.prog cf0 100000 9 W0 (.go e U) = .ok (.tuple #[]) ⟨bld l', n', [], .off⟩) :
    Cx.EndsL Tryz.prog ⟨N9, X9, gB, wB, W0⟩ xS (envD X9 x) (WD X9 x) (Left9 W0 l' n') := by
  refine Cx.EndsL.step ?_
  rw [rn9_eq] at h
  refine Cx.Ends.eval' noNum mixed n9 cf0_ok (fuel := 100000) (c := xS) h (fun y e => by cases e) ?_
  have : Left9 W0 l' n' (.ex 0 e U) := by
    unfold Left9 OutOf
    dsimp only
    rw [if_pos rfl]
    exact he
  exact this

theorem sync_start {xs x y p r k : Nat} {l' : List (Nat × Ob)} {n' base : Nat} (hb : nD xs x = base) (h : okN base X9 y (start9 xs x p r k) = true)
    (hy : Cx.EndsL Tryz.prog ⟨N9, X9, gB, wB, ⟨bld (lD xs x), nD xs x, [], .off⟩⟩ xS (envD X9 y) (WD X9 y) (Left9 ⟨bld (lD xs x), nD xs x, [], .off⟩ l' n')) :
    CallS Tryz.prog gB wB 9 [.pointer (some ⟨p, 0, none⟩), numV r] (lD xs x) (nD xs x) (.tuple #[]) l' n' := by
  obtain ⟨e, U, h1, h2⟩ := okN_go h
  unfold start9 at h1
  obtain ⟨e2, U2, h3, h4⟩ := thn_go h1
  rw [pr9_eq] at h3
  refine CallS.of noNum mixed Tryz.func9 body9 (show 2 ≤ 256 by decide) (fuel := 100000) cf0_ok ?_
  refine Cx.Ends.pre' (N := N9) (xs := X9) noNum mixed n9 cf0_ok (fuel := 100000) 2 h3 ?_
  rw [shape9]
  exact Cx.Ends.block (Cx.Ends.loop (rounds_ends k h4 (Cx.EndsL.num' hb h2 hy)))

end
end Go.Proofs.YtnfojfamiieieaaGreat
