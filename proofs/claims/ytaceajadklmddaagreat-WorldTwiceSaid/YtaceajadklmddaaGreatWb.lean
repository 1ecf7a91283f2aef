/- Worlds: how the rounds of Sync go together. -/
import Derived.Test.YtaceajadklmddaaGreatWa
namespace Go.Proofs.YtaceajadklmddaaGreat
open Go Go.Cx Go.RowKit

theorem rn17_eq (c : Code) (env : Env) (U : W) : rn17 c env U = (cCode Tryz.prog 100000 N17 X17 c).run cf0 env U := rfl
theorem pr17_eq (k : Nat) (c : Code) (env : Env) (U : W) : pr17 k c env U = preSeq Tryz.prog 100000 N17 X17 cf0 k c env U := rfl
theorem thn_go {r : Ou} {f : Env → W → Ou} {e1 : Env} {U1 : W} (h : thn r f = .go e1 U1) : ∃ e U, r = .go e U ∧ f e U = .go e1 U1 := by
  cases r with
  | go e U => exact ⟨e, U, rfl, h⟩
  | _ => cases h
theorem okN_go {base xs y : Nat} {r : Ou} (h : okN base xs y r = true) : ∃ e U, r = .go e U ∧ isN base xs y e U = true := by
  cases r with
  | go e U => exact ⟨e, U, rfl, h⟩
  | _ => cases h

noncomputable def exE (r : Ou) : Env := match r with | .ex _ e _ => e | _ => env00

section
variable {gB : Gh} {wB : World} {W0 : W} {R : Ou → Prop}

theorem rounds_ends (k : Nat) : ∀ {e e1 : Env} {U U1 : W}, rounds k e U = .go e1 U1 → Cx.EndsL Tryz.prog ⟨N17, X17, gB, wB, W0⟩ xS e1 U1 R → Cx.EndsL Tryz.prog ⟨N17, X17, gB, wB, W0⟩ xS e U R := by
  induction k with
  | zero =>
    intro e e1 U U1 h hy
    have h : Ou.go e U = Ou.go e1 U1 := h
    cases h; exact hy
  | succ k ih =>
    intro e e1 U U1 h hy
    have h : thn (rn17 xS e U) (rounds k) = .go e1 U1 := h
    obtain ⟨e2, U2, h1, h2⟩ := thn_go h
    rw [rn17_eq] at h1
    exact Cx.EndsL.step (Cx.Ends.eval' noNum mixed n17 cf0_ok (fuel := 100000) (c := xS) h1 (fun y e => by cases e) (ih h2 hy))

theorem sync_go {base x y k : Nat} (hb : W0.n = base) (h : okN base X17 y (go17 x k) = true) (hy : Cx.EndsL Tryz.prog ⟨N17, X17, gB, wB, W0⟩ xS (envD X17 y) (WD X17 y) R) :
    Cx.EndsL Tryz.prog ⟨N17, X17, gB, wB, W0⟩ xS (envD X17 x) (WD X17 x) R := by
  obtain ⟨e, U, h1, h2⟩ := okN_go h
  unfold go17 at h1
  exact rounds_ends k h1 (Cx.EndsL.num' hb h2 hy)

/-- how the loop is left, for the call to be good -/
def Left17 (W0 : W) (l' : List (Nat × Ob)) (n' : Nat) : Ou → Prop := OutOf 0 fun r => ending Tryz.prog cf0 100000 17 W0 r = .ok (.tuple #[]) ⟨bld l', n', [], .off⟩

theorem sync_last {x : Nat} {l' : List (Nat × Ob)} {n' : Nat} {e : Env} {U : W} (h : rn17 xS (envD X17 x) (WD X17 x) = .ex 0 e U) (he : ending Tryz.prog cf0 100000 17 W0 (.go e U) = .ok (.tuple #[]) ⟨bld l', n', [], .off⟩) :
    Cx.EndsL Tryz.prog ⟨N17, X17, gB, wB, W0⟩ xS (envD X17 x) (WD X17 x) (Left17 W0 l' n') := by
  refine Cx.EndsL.step ?_
  rw [rn17_eq] at h
  refine Cx.Ends.eval' noNum mixed n17 cf0_ok (fuel := 100000) (c := xS) h (fun y e => by cases e) ?_
  have : Left17 W0 l' n' (.ex 0 e U) := by
    unfold Left17 OutOf
    dsimp only
    rw [if_pos rfl]
    exact he
  exact this

theorem sync_start {xs x y p r k : Nat} {l' : List (Nat × Ob)} {n' base : Nat} (hb : nD xs x = base) (h : okN base X17 y (start17 xs x p r k) = true)
    (hy : Cx.EndsL Tryz.prog ⟨N17, X17, gB, wB, ⟨bld (lD xs x), nD xs x, [], .off⟩⟩ xS (envD X17 y) (WD X17 y) (Left17 ⟨bld (lD xs x), nD xs x, [], .off⟩ l' n')) :
    CallS Tryz.prog gB wB 17 [.pointer (some ⟨p, 0, none⟩), numV r] (lD xs x) (nD xs x) (.tuple #[]) l' n' := by
  obtain ⟨e, U, h1, h2⟩ := okN_go h
  unfold start17 at h1
  obtain ⟨e2, U2, h3, h4⟩ := thn_go h1
  rw [pr17_eq] at h3
  refine CallS.of noNum mixed Tryz.func17 body17 (show 2 ≤ 256 by decide) (fuel := 100000) cf0_ok ?_
  refine Cx.Ends.pre' (N := N17) (xs := X17) noNum mixed n17 cf0_ok (fuel := 100000) 2 h3 ?_
  rw [shape17]
  exact Cx.Ends.block (Cx.Ends.loop (rounds_ends k h4 (Cx.EndsL.num' hb h2 hy)))

end
end Go.Proofs.YtaceajadklmddaaGreat
