/- Worlds: ready(), and the body of WorldLoses. -/
import Derived.Test.YtcocconldmhlnaaGreatWb
namespace Go.Proofs.YtcocconldmhlnaaGreat
open Go Go.Cx Go.RowKit

noncomputable def c6 : Code := match Tryz.f6.body with | some c => c | none => .skip
theorem body6 : Tryz.f6.body = some c6 := by kernel_rfl
noncomputable def N6 : Nat := Tryz.f6.ntmps
noncomputable def X6 : Nat := xsOf Tryz.f6 c6
theorem n6 : N6 ≤ 256 := by decide +kernel
noncomputable def pre6 (k : Nat) : Ou := preSeq Tryz.prog 100000 N6 X6 cf0 k c6 (env0 [] 0 env00) w02

noncomputable def c3 : Code := match Tryz.f3.body with | some c => c | none => .skip
theorem body3 : Tryz.f3.body = some c3 := by kernel_rfl
noncomputable def N3 : Nat := Tryz.f3.ntmps
noncomputable def X3 : Nat := xsOf Tryz.f3 c3
theorem n3 : N3 ≤ 256 := by decide +kernel

/-- what is known of calls: of the example; of numbers that are taken within bounds (k: a symbol, m: the bound, v: the number) -/
noncomputable def orc (k m : Nat) (v : Value) : FuncId → List Value → Option Value := fun f args =>
  Bool.rec (motive := fun _ => Option Value) (Bool.rec (motive := fun _ => Option Value) none (match args with | [] => some (.bool true) | _ => none) (Nat.beq f 5))
    (match args with
      | [.complex .f32 i 2, .int .i64 (.ofNat n)] => Bool.rec (motive := fun _ => Option Value) none (Bool.rec (motive := fun _ => Option Value) none (some v) (Nat.beq n m)) (Nat.beq i k)
      | _ => none) (Nat.beq f 7)


end Go.Proofs.YtcocconldmhlnaaGreat
