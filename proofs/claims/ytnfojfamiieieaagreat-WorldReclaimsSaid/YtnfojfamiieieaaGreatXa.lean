/- The law WorldReclaims: its body, piece by piece. -/
import Derived.Test.YtnfojfamiieieaaGreatWb
namespace Go.Proofs.YtnfojfamiieieaaGreat
open Go Go.Cx Go.RowKit

noncomputable def c4 : Code := match Tryz.f4.body with | some c => c | none => .skip
theorem body4 : Tryz.f4.body = some c4 := by kernel_rfl
noncomputable def N4 : Nat := Tryz.f4.ntmps
noncomputable def X4 : Nat := xsOf Tryz.f4 c4
theorem n4 : N4 ≤ 256 := by decide +kernel
noncomputable def pre4 (k : Nat) : Ou := preSeq Tryz.prog 100000 N4 X4 cf0 k c4 (env0 [] 0 env00) w02

noncomputable def c5 : Code := match Tryz.f5.body with | some c => c | none => .skip
theorem body5 : Tryz.f5.body = some c5 := by kernel_rfl
noncomputable def N5 : Nat := Tryz.f5.ntmps
noncomputable def X5 : Nat := xsOf Tryz.f5 c5
theorem n5 : N5 ≤ 256 := by decide +kernel
noncomputable def pre5 (k : Nat) : Ou := preSeq Tryz.prog 100000 N5 X5 cf0 k c5 (env0 [] 0 env00) w02

noncomputable def c3 : Code := match Tryz.f3.body with | some c => c | none => .skip
theorem body3 : Tryz.f3.body = some c3 := by kernel_rfl
noncomputable def N3 : Nat := Tryz.f3.ntmps
noncomputable def X3 : Nat := xsOf Tryz.f3 c3
theorem n3 : N3 ≤ 256 := by decide +kernel

abbrev Orc := FuncId → List Value → W → Option Re
noncomputable def sy (k : Nat) : Value := .complex .f32 k 2
/-- what is known of calls: of the example; of numbers that are taken within bounds -/
noncomputable def orcK : FuncId → List Value → Option Value := fun f args => Bool.rec (motive := fun _ => Option Value) none (match args with | [] => some (.bool true) | _ => none) (Nat.beq f 4)
noncomputable def orcT (t : Nat) : FuncId → List Value → Option Value := fun f args => Bool.rec (motive := fun _ => Option Value) none
    (match args with
      | [.complex .f32 0 2, .int .i64 (.ofNat 30)] => some (numV (Nat.sub t 1))
      | [.complex .f32 1 2, .int .i64 (.ofNat 45)] => some (.complex .f32 4 2)
      | _ => none) (Nat.beq f 6)
noncomputable def o0 : Orc := fun _ _ _ => none
noncomputable def cfo (o : Orc) : CallF := evH Tryz.prog 100000 (orc2 o deskR) 100
noncomputable def pr3 (o : Orc) (k : Nat) (c : Code) (env : Env) (U : W) : Ou := preSeq Tryz.prog 100000 N3 X3 (cfo o) k c env U
noncomputable def rn3 (o : Orc) (c : Code) (env : Env) (U : W) : Ou := (cCode Tryz.prog 100000 N3 X3 c).run (cfo o) env U
noncomputable def startA (ro : Orc) : Ou := pr3 (orc2 (orcV orcK) ro) 3 c3 (env0 [sy 0, sy 1, sy 2] 0 env00) w02
/-- k statements from the j-th on, in the state of a number -/
noncomputable def at3 (o : Orc) (j k x : Nat) : Ou := pr3 o k (dropSeq j c3) (envD X3 x) (WD X3 x)
noncomputable def okQ (T : List Value) (base xs y : Nat) (r : Ou) : Bool := Ou.rec (motive := fun _ => Bool) (isQ (qT T) base xs y) (fun _ _ _ => false) (fun _ _ => false) (fun _ _ _ => false) (fun _ => false) r
/-- the answer, from the 8-th statement on: the ticks lie between lo and hi, v is waited -/
noncomputable def endL (lo hi v : Nat) (b : Bool) (x : Nat) : Bool := isB true (ending Tryz.prog cf0 100000 3 w02 (rn3 o0 (dropSeq 8 c3) (subE 2 2 (.bool b) (subE 1 4 (numV v) (subE 0 3 (linV 3 lo hi) (envD X3 x)))) (WL 3 lo hi X3 x)))

end Go.Proofs.YtnfojfamiieieaaGreat
