/- The law EdgeMerges: its pieces, what is looked at of each. -/
import Derived.Test.YtkglhjcbdomaaaaGreatMa
namespace Go.Proofs.YtkglhjcbdomaaaaGreat
open Go Go.Cx Go.RowKit

noncomputable def c3 : Code := match Tryz.f3.body with | some c => c | none => .skip
theorem body3 : Tryz.f3.body = some c3 := by kernel_rfl
noncomputable def st7 : Code := match dropSeq 7 c3 with | .seq s _ => s | _ => .skip
noncomputable def rest8 : Code := dropSeq 8 c3
noncomputable def r12 : Code := match st7 with | .seq a _ => a | _ => .skip
noncomputable def x3 : Code := match st7 with | .seq _ (.block _ (.loop x)) => x | _ => .skip
noncomputable def C1 : Code := match x3 with | .seq a _ => a | _ => .skip
noncomputable def B3 : Code := match x3 with | .seq _ (.seq (.block _ b) _) => b | _ => .skip
noncomputable def R14 : Code := match x3 with | .seq _ (.seq _ r) => r | _ => .skip
theorem shape7 : dropSeq 7 c3 = .seq (.seq r12 (.block 2 (.loop x3))) rest8 := by kernel_rfl
theorem shapeX : x3 = .seq C1 (.seq (.block 3 B3) R14) := by kernel_rfl

noncomputable def N3 : Nat := Tryz.f3.ntmps
noncomputable def X3 : Nat := xsOf Tryz.f3 c3
noncomputable def sy (k : Nat) : Value := .complex .f32 k 2
noncomputable def cf0 : CallF := evO Tryz.prog 100000 (fun _ _ => none) 100
noncomputable def cfv (k m : Nat) (v : Value) : CallF := evO Tryz.prog 100000 (orc k m v) 100
noncomputable def rn (cf : CallF) (c : Code) (env : Env) (U : W) : Ou := (cCode Tryz.prog 100000 N3 X3 c).run cf env U
noncomputable def pr (cf : CallF) (k : Nat) (c : Code) (env : Env) (U : W) : Ou := preSeq Tryz.prog 100000 N3 X3 cf k c env U
noncomputable def thn (r : Ou) (f : Env → W → Ou) : Ou := Ou.rec (motive := fun _ => Ou) f (fun _ _ _ => .no 200) (fun _ _ => .no 200) (fun _ _ _ => .no 200) Ou.no r

noncomputable def startO (n0 : Nat) : Ou := thn (pr (cfv 0 15 (sy 2)) 3 c3 (env0 [sy 0, sy 1] 0 env00) w02) fun e U => thn (pr cf0 4 (dropSeq 3 c3) (subE 0 2 (numV n0) e) U) (rn cf0 r12)
noncomputable def preO (e : Env) (U : W) : Ou := thn (rn cf0 C1 e U) (pr cf0 5 B3)
noncomputable def postO (m v : Nat) (e : Env) (U : W) : Ou := thn (rn (cfv 1 m (numV v)) (dropSeq 5 B3) e U) (rn cf0 R14)
/-- is it the state of this number? -/
noncomputable def okN (y : Nat) (r : Ou) : Bool := Ou.rec (motive := fun _ => Bool) (isN 2 X3 y) (fun _ _ _ => false) (fun _ _ => false) (fun _ _ _ => false) (fun _ => false) r
noncomputable def startB (n0 x : Nat) : Bool := okN x (startO n0)
noncomputable def fstO (x : Nat) : Ou := preO (envD 2 X3 x) (WD 2 X3 x)
noncomputable def roundB (x y m : Nat) (vs : List Nat) : Bool := Ou.rec (motive := fun _ => Bool) (fun e U => allL (fun v => okN y (postO m v e U)) vs) (fun _ _ _ => false) (fun _ _ => false) (fun _ _ _ => false) (fun _ => false) (fstO x)
noncomputable def lastB (x : Nat) : Bool := Ou.rec (motive := fun _ => Bool) (fun _ _ => false) (fun i e U => Nat.beq i 2 && isB true (ending Tryz.prog cf0 100000 3 w02 (rn cf0 rest8 e U))) (fun _ _ => false) (fun _ _ _ => false) (fun _ => false) (rn cf0 x3 (envD 2 X3 x) (WD 2 X3 x))
/-- the number of a state -/
noncomputable def numO (r : Ou) : Nat := Ou.rec (motive := fun _ => Nat) (encN 2 X3) (fun _ _ _ => 0) (fun _ _ => 1) (fun _ _ _ => 2) (fun y => Nat.add 1000 y) r
noncomputable def nextO (x m v : Nat) : Ou := thn (fstO x) (postO m v)

end Go.Proofs.YtkglhjcbdomaaaaGreat
