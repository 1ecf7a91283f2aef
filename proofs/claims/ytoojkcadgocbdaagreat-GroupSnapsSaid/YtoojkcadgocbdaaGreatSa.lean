/- The law GroupSnaps: its body, piece by piece. -/
import Derived.Test.YtoojkcadgocbdaaGreatWb
namespace Go.Proofs.YtoojkcadgocbdaaGreat
open Go Go.Cx Go.RowKit

noncomputable def c4 : Code := match Tryz.f4.body with | some c => c | none => .skip
theorem body4 : Tryz.f4.body = some c4 := by kernel_rfl
noncomputable def N4 : Nat := Tryz.f4.ntmps
noncomputable def X4 : Nat := xsOf Tryz.f4 c4
theorem n4 : N4 ≤ 256 := by decide +kernel
noncomputable def rn4 : Ou := (cCode Tryz.prog 100000 N4 X4 c4).run cf0 (env0 [] 0 env00) w02

noncomputable def c3 : Code := match Tryz.f3.body with | some c => c | none => .skip
theorem body3 : Tryz.f3.body = some c3 := by kernel_rfl
noncomputable def N3 : Nat := Tryz.f3.ntmps
noncomputable def X3 : Nat := xsOf Tryz.f3 c3
theorem n3 : N3 ≤ 256 := by decide +kernel

/-- what is known of calls: of the example; of numbers that are taken within bounds, where they are to come to m and b -/
noncomputable def orcB (m b : Nat) : FuncId → List Value → Option Value := fun f args =>
  Bool.rec (motive := fun _ => Option Value) (Bool.rec (motive := fun _ => Option Value) none (match args with | [] => some (.bool true) | _ => none) (Nat.beq f 4))
    (match args with
      | [.complex .f32 0 2, .int .i64 (.ofNat 40)] => some (numV (Nat.sub m 30))
      | [.complex .f32 1 2, .int .i64 (.ofNat 2)] => some (numV (Nat.sub b 1))
      | _ => none) (Nat.beq f 5)
noncomputable def sy (k : Nat) : Value := .complex .f32 k 2
noncomputable def cfo (o : Orc) : CallF := evH Tryz.prog 100000 o 100
noncomputable def pr3 (o : Orc) (k : Nat) (c : Code) (env : Env) (U : W) : Ou := preSeq Tryz.prog 100000 N3 X3 (cfo o) k c env U
noncomputable def rn3 (o : Orc) (c : Code) (env : Env) (U : W) : Ou := (cCode Tryz.prog 100000 N3 X3 c).run (cfo o) env U
/-- the start, where the numbers come to m and b; then they are symbols again -/
noncomputable def startS (m b : Nat) : Ou := thn (pr3 (orcV (orcB m b)) 3 c3 (env0 [sy 0, sy 1] 0 env00) w02) fun e U =>
  Bool.rec (motive := fun _ => Ou) (.no 300) (.go (putS 1 3 (putS 0 2 e)) U) (eqV ((getE 0).run e) (numV m) && eqV ((getE 1).run e) (numV b))
noncomputable def cL : Code := match dropSeq 5 c3 with | .seq l _ => l | _ => .skip
noncomputable def c6 : Code := dropSeq 6 c3
noncomputable def cR : Code := match cL with | .seq r _ => r | _ => .skip
noncomputable def yL : Code := match cL with | .seq _ (.block 0 (.loop y)) => y | _ => .skip
theorem shapeL : dropSeq 5 c3 = .seq (.seq cR (.block 0 (.loop yL))) c6 := by kernel_rfl
/-- k statements from the j-th on, in the state of a number -/
noncomputable def at3 (o : Orc) (j k x : Nat) : Ou := pr3 o k (dropSeq j c3) (envD X3 x) (WD X3 x)
/-- from where the one that is away is known, into the loop -/
noncomputable def startL (b x : Nat) : Ou := thn (pr3 o0 1 (dropSeq 4 c3) (subE 1 3 (numV b) (envD X3 x)) (WD X3 x)) fun e U => rn3 o0 cR e U
/- a round of the loop: its head, and what comes behind it -/
noncomputable def cH : Code := match yL with | .seq (.seq h _) _ => h | _ => .skip
noncomputable def cT : Code := match yL with | .seq _ t => t | _ => .skip
noncomputable def cX : Code := match yL with | .seq (.seq _ (.cond _ x _)) _ => x | _ => .skip
noncomputable def cN : Code := match yL with | .seq (.seq _ (.cond _ _ y)) _ => y | _ => .skip
theorem shapeY : yL = .seq (.seq cH (.cond (.tmp 25) cX cN)) cT := by kernel_rfl
noncomputable def env25 (e : Env) : Env := (putE 25).run (.bool true) e
/-- a round, the k-th, where the head lets it in -/
noncomputable def roundS (k : Nat) (e : Env) (U : W) : Ou := Bool.rec (motive := fun _ => Ou) (.no 301) (rn3 o0 cT (env25 e) U) (eqV ((getE 6).run e) (numV k) && isSym 2 ((getE 0).run e))
/-- so many rounds, from the k-th on -/
noncomputable def roundsS (m : Nat) : Nat → Env → W → Ou := Nat.rec (motive := fun _ => Nat → Env → W → Ou) (fun _ e U => .go e U) (fun _ ih k e U => thn (roundS k e U) (ih (Nat.succ k))) m
noncomputable def goS (x m k : Nat) : Ou := roundsS m k (envD X3 x) (WD X3 x)
noncomputable def thx (r : Ou) (f : Env → W → Ou) : Ou := match r with | .ex 0 e U => f e U | _ => .no 201
/-- the loop is left with n = m; then so many statements -/
noncomputable def leaveS (m k x : Nat) : Ou := thx (rn3 o0 yL (subE 0 2 (numV m) (envD X3 x)) (WD X3 x)) fun e U => pr3 o0 k c6 e U
/-- the answer, from the j-th statement on -/
noncomputable def end3 (o : Orc) (j x : Nat) : Bool := isB true (ending Tryz.prog cf0 100000 3 w02 (rn3 o (dropSeq j c3) (envD X3 x) (WD X3 x)))
theorem skip_eq (e : Env) (U : W) : (cCode Tryz.prog 100000 N3 X3 cX).run (cfo o0) e U = .go e U := by kernel_rfl

end Go.Proofs.YtoojkcadgocbdaaGreat
