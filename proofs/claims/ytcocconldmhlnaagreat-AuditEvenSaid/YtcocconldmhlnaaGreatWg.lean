/- Worlds: a round of Sync in two parts. -/
import Derived.Test.YtcocconldmhlnaaGreatWb
namespace Go.Proofs.YtcocconldmhlnaaGreat
open Go Go.Cx Go.RowKit

noncomputable def bS : Code := match dropSeq 2 xS with | .seq (.block _ b) _ => b | _ => .skip
noncomputable def lS : Code := match dropSeq 2 xS with | .seq _ r => r | _ => .skip
noncomputable def yS : Code := match dropSeq 4 bS with | .block _ (.loop y) => y | _ => .skip
theorem shapeX : dropSeq 2 xS = .seq (.block 1 bS) lS := by kernel_rfl
theorem shapeB : dropSeq 4 bS = .block 2 (.loop yS) := by kernel_rfl

/-- k clients speak -/
noncomputable def speaks (k : Nat) : Env → W → Ou := Nat.rec (motive := fun _ => Env → W → Ou) (fun e U => .go e U) (fun _ ih e U => thn (rn10 yS e U) ih) k
/-- a round, till k clients have spoken -/
noncomputable def in10 (x k : Nat) : Ou := thn (thn (pr10 2 xS (envD X10 x) (WD X10 x)) fun e U => pr10 4 bS e U) (speaks k)
noncomputable def mid10 (x k : Nat) : Ou := speaks k (envD X10 x) (WD X10 x)
noncomputable def thx (r : Ou) (f : Env → W → Ou) : Ou := match r with | .ex 2 e U => f e U | _ => .no 201
/-- the rest of a round, k clients more -/
noncomputable def out10 (x k : Nat) : Ou := thn (speaks k (envD X10 x) (WD X10 x)) fun e U => thx (rn10 yS e U) fun e U => rn10 lS e U

section
variable {gB : Gh} {wB : World} {W0 : W} {R : Ou → Prop}

def Rn (gB : Gh) (wB : World) (W0 : W) (R : Ou → Prop) : Ou → Prop := Then R fun e U => Cx.EndsL Tryz.prog ⟨N10, X10, gB, wB, W0⟩ xS e U R
/-- within a round -/
def Mid (gB : Gh) (wB : World) (W0 : W) (R : Ou → Prop) (e : Env) (U : W) : Prop :=
  Cx.EndsL Tryz.prog ⟨N10, X10, gB, wB, W0⟩ yS e U (OutOf 2 (OutOf 1 (Then (Rn gB wB W0 R) fun e U => Cx.Ends Tryz.prog ⟨N10, X10, gB, wB, W0⟩ lS e U (Rn gB wB W0 R))))

theorem speaks_mid (k : Nat) : ∀ {e e1 : Env} {U U1 : W}, speaks k e U = .go e1 U1 → Mid gB wB W0 R e1 U1 → Mid gB wB W0 R e U := by
  induction k with
  | zero =>
    intro e e1 U U1 h hy
    have h : Ou.go e U = Ou.go e1 U1 := h
    cases h; exact hy
  | succ k ih =>
    intro e e1 U U1 h hy
    have h : thn (rn10 yS e U) (speaks k) = .go e1 U1 := h
    obtain ⟨e2, U2, h1, h2⟩ := thn_go h
    rw [rn10_eq] at h1
    exact Cx.EndsL.step (Cx.Ends.eval' noNum mixed n10 cf0_ok (fuel := 100000) (c := yS) h1 (fun y e => by cases e) (ih h2 hy))

theorem sync_in {base x y k : Nat} (hb : W0.n = base) (h : okN base X10 y (in10 x k) = true) (hy : Mid gB wB W0 R (envD X10 y) (WD X10 y)) :
    Cx.EndsL Tryz.prog ⟨N10, X10, gB, wB, W0⟩ xS (envD X10 x) (WD X10 x) R := by
  obtain ⟨e, U, h1, h2⟩ := okN_go h
  unfold in10 at h1
  obtain ⟨e1, U1, h3, h4⟩ := thn_go h1
  obtain ⟨e2, U2, h5, h6⟩ := thn_go h3
  rw [pr10_eq] at h5 h6
  refine Cx.EndsL.step ?_
  refine Cx.Ends.pre' (N := N10) (xs := X10) noNum mixed n10 cf0_ok (fuel := 100000) 2 h5 ?_
  rw [shapeX]
  refine Cx.Ends.block2 ?_
  refine Cx.Ends.pre' (N := N10) (xs := X10) noNum mixed n10 cf0_ok (fuel := 100000) 4 h6 ?_
  rw [shapeB]
  exact Cx.Ends.block (Cx.Ends.loop (speaks_mid k h4 (Cx.EndsL.num' hb h2 hy)))

theorem sync_mid {base x y k : Nat} (hb : W0.n = base) (h : okN base X10 y (mid10 x k) = true) (hy : Mid gB wB W0 R (envD X10 y) (WD X10 y)) : Mid gB wB W0 R (envD X10 x) (WD X10 x) := by
  obtain ⟨e, U, h1, h2⟩ := okN_go h
  unfold mid10 at h1
  exact speaks_mid k h1 (Cx.EndsL.num' hb h2 hy)

theorem then_out {R : Ou → Prop} {X : Env → W → Prop} {e : Env} {U : W} (h : R (.go e U)) : Then (OutOf 2 R) X (.ex 2 e U) := by
  have : OutOf 2 R (.ex 2 e U) := by
    unfold OutOf
    dsimp only
    rw [if_pos rfl]
    exact h
  exact this

theorem sync_out {base x y k : Nat} (hb : W0.n = base) (h : okN base X10 y (out10 x k) = true) (hy : Cx.EndsL Tryz.prog ⟨N10, X10, gB, wB, W0⟩ xS (envD X10 y) (WD X10 y) R) :
    Mid gB wB W0 R (envD X10 x) (WD X10 x) := by
  obtain ⟨e, U, h1, h2⟩ := okN_go h
  unfold out10 at h1
  obtain ⟨e1, U1, h3, h4⟩ := thn_go h1
  refine speaks_mid k h3 ?_
  unfold thx at h4
  split at h4
  · rename_i e2 U2 hx
    have h4 : rn10 lS e2 U2 = .go e U := h4
    rw [rn10_eq] at hx h4
    refine Cx.EndsL.step ?_
    refine Cx.Ends.eval' noNum mixed n10 cf0_ok (fuel := 100000) (c := yS) hx (fun y e => by cases e) ?_
    exact then_out (R := OutOf 1 (Then (Rn gB wB W0 R) fun e U => Cx.Ends Tryz.prog ⟨N10, X10, gB, wB, W0⟩ lS e U (Rn gB wB W0 R))) (Cx.Ends.eval' noNum mixed n10 cf0_ok (fuel := 100000) (c := lS) h4 (fun y e => by cases e) (Cx.EndsL.num' hb h2 hy))
  · cases h4

end
end Go.Proofs.YtcocconldmhlnaaGreat
