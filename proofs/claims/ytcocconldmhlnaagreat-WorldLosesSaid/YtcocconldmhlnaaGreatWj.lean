/- Worlds: cuts within Sync that keep all that its caller has. -/
import Derived.Test.YtcocconldmhlnaaGreatWg
namespace Go.Proofs.YtcocconldmhlnaaGreat
open Go Go.Cx Go.RowKit

noncomputable def below (h : Hp) (base : Nat) : List Nat := Nat.rec (motive := fun _ => List Nat) [] (fun i ih => Option.rec (motive := fun _ => List Nat) ih (fun _ => i :: ih) (hget h i)) base
noncomputable def oldsK (base xs : Nat) (env : Env) (U : W) : List Nat := marked (reach U.h 1000000 (app (below U.h base) (roots (slotsOf xs 256) env)) hp0) U.n []
noncomputable def isK (base xs x : Nat) (env : Env) (U : W) : Bool := cutOk base xs (piF base (nD xs x) (tabF (names base (oldsK base xs env U) base) hp0)) (nD xs x) (lD xs x) (envD xs x) env U && (match U.rc with | .off => true | _ => false)
noncomputable def okK (base xs y : Nat) (r : Ou) : Bool := Ou.rec (motive := fun _ => Bool) (isK base xs y) (fun _ _ _ => false) (fun _ _ => false) (fun _ _ _ => false) (fun _ => false) r
theorem okK_go {base xs y : Nat} {r : Ou} (h : okK base xs y r = true) : ∃ e U, r = .go e U ∧ isK base xs y e U = true := by
  cases r with
  | go e U => exact ⟨e, U, rfl, h⟩
  | _ => cases h

section
variable {gB : Gh} {wB : World} {W0 : W} {R : Ou → Prop}

theorem numK0 {K : Cxt} {c : Code} {env : Env} {U : W} {x : Nat} (h : isK K.W0.n K.xs x env U = true) (he : Cx.EndsL Tryz.prog K c (envD K.xs x) (WD K.xs x) R) : Cx.EndsL Tryz.prog K c env U R := by
  unfold isK at h
  rw [Bool.and_eq_true] at h
  refine Cx.EndsL.cut h.1 ?_
  have : U.rc = .off := by
    have h2 := h.2
    split at h2
    · assumption
    · cases h2
  rw [this]
  exact he
theorem numK {c : Code} {env : Env} {U : W} {xs x base N : Nat} (hb : W0.n = base) (h : isK base xs x env U = true) (he : Cx.EndsL Tryz.prog ⟨N, xs, gB, wB, W0⟩ c (envD xs x) (WD xs x) R) : Cx.EndsL Tryz.prog ⟨N, xs, gB, wB, W0⟩ c env U R :=
  numK0 (K := ⟨N, xs, gB, wB, W0⟩) (hb ▸ h) he

theorem sync_goK {base x y k : Nat} (hb : W0.n = base) (h : okK base X10 y (go10 x k) = true) (hy : Cx.EndsL Tryz.prog ⟨N10, X10, gB, wB, W0⟩ xS (envD X10 y) (WD X10 y) R) :
    Cx.EndsL Tryz.prog ⟨N10, X10, gB, wB, W0⟩ xS (envD X10 x) (WD X10 x) R := by
  obtain ⟨e, U, h1, h2⟩ := okK_go h
  unfold go10 at h1
  exact rounds_ends k h1 (numK hb h2 hy)

theorem sync_startK {xs x y p r k : Nat} {l' : List (Nat × Ob)} {n' base : Nat} (hb : nD xs x = base) (h : okK base X10 y (start10 xs x p r k) = true)
    (hy : Cx.EndsL Tryz.prog ⟨N10, X10, gB, wB, ⟨bld (lD xs x), nD xs x, [], .off⟩⟩ xS (envD X10 y) (WD X10 y) (Left10 ⟨bld (lD xs x), nD xs x, [], .off⟩ l' n')) :
    CallS Tryz.prog gB wB 10 [.pointer (some ⟨p, 0, none⟩), numV r] (lD xs x) (nD xs x) (.tuple #[]) l' n' := by
  obtain ⟨e, U, h1, h2⟩ := okK_go h
  unfold start10 at h1
  obtain ⟨e2, U2, h3, h4⟩ := thn_go h1
  rw [pr10_eq] at h3
  refine CallS.of noNum mixed Tryz.func10 body10 (show 2 ≤ 256 by decide) (fuel := 100000) cf0_ok ?_
  refine Cx.Ends.pre' (N := N10) (xs := X10) noNum mixed n10 cf0_ok (fuel := 100000) 2 h3 ?_
  rw [shape10]
  exact Cx.Ends.block (Cx.Ends.loop (rounds_ends k h4 (numK hb h2 hy)))

end
end Go.Proofs.YtcocconldmhlnaaGreat
