/- The law AuditEven: its body, and its example. -/
import Derived.Test.YtcocconldmhlnaaGreatWg
namespace Go.Proofs.YtcocconldmhlnaaGreat
open Go Go.Cx Go.RowKit

noncomputable def c17 : Code := match Tryz.f17.body with | some c => c | none => .skip
theorem body17 : Tryz.f17.body = some c17 := by kernel_rfl
noncomputable def N17 : Nat := Tryz.f17.ntmps
noncomputable def X17 : Nat := xsOf Tryz.f17 c17
theorem n17 : N17 ≤ 256 := by decide +kernel
noncomputable def rn17 : Ou := (cCode Tryz.prog 100000 N17 X17 c17).run cf0 (env0 [] 0 env00) w02

noncomputable def c4 : Code := match Tryz.f4.body with | some c => c | none => .skip
theorem body4 : Tryz.f4.body = some c4 := by kernel_rfl
noncomputable def N4 : Nat := Tryz.f4.ntmps
noncomputable def X4 : Nat := xsOf Tryz.f4 c4
theorem n4 : N4 ≤ 256 := by decide +kernel

/-- what is known of calls: of the example; of numbers that are taken within bounds (k: a symbol, m: the bound, v: the number) -/
noncomputable def orcA : FuncId → List Value → Option Value := fun f args =>
  Bool.rec (motive := fun _ => Option Value) (Bool.rec (motive := fun _ => Option Value) none (match args with | [] => some (.bool true) | _ => none) (Nat.beq f 17))
    (match args with
      | [.complex .f32 0 2, .int .i64 (.ofNat 8)] => some (.complex .f32 2 2)
      | [.complex .f32 1 2, .int .i64 (.ofNat 3)] => some (.complex .f32 3 2)
      | _ => none) (Nat.beq f 19)
abbrev Orc := FuncId → List Value → W → Option Re
noncomputable def sy (k : Nat) : Value := .complex .f32 k 2
noncomputable def cfo (o : Orc) : CallF := evH Tryz.prog 100000 (orc2 o deskO) 100
noncomputable def pr4 (o : Orc) (k : Nat) (c : Code) (env : Env) (U : W) : Ou := preSeq Tryz.prog 100000 N4 X4 (cfo o) k c env U
noncomputable def rn4 (o : Orc) (c : Code) (env : Env) (U : W) : Ou := (cCode Tryz.prog 100000 N4 X4 c).run (cfo o) env U
noncomputable def startE (k : Nat) : Ou := pr4 (orcV orcA) k c4 (env0 [sy 0, sy 1] 0 env00) w02
noncomputable def syncO (xs x p r y : Nat) : Orc := orcS 10 [.pointer (some ⟨p, 0, none⟩), numV r] (lD xs x) (nD xs x) (.tuple #[]) (lD X10 y) (nD X10 y)
/-- k statements from the j-th on, in the state of a number -/
noncomputable def at4 (o : Orc) (j k x : Nat) : Ou := pr4 o k (dropSeq j c4) (envD X4 x) (WD X4 x)
/-- a leaf: n and who are known -/
noncomputable def atD (n who j k x : Nat) : Ou := pr4 (fun _ _ _ => none) k (dropSeq j c4) (subE 0 2 (numV n) (subE 1 3 (numV who) (envD X4 x))) (WD X4 x)
/-- the leaf where n is nothing: who may be any -/
noncomputable def atN (j k x : Nat) : Ou := pr4 (fun _ _ _ => none) k (dropSeq j c4) (subE 0 2 (numV 0) (envD X4 x)) (WD X4 x)
/-- the answer, from the j-th statement on -/
noncomputable def end4 (o : Orc) (j x : Nat) : Bool := isB true (ending Tryz.prog cf0 100000 4 w02 (rn4 o (dropSeq j c4) (envD X4 x) (WD X4 x)))
/-- the number in a slot -/
noncomputable def natAt (xs x t : Nat) : Nat := match (getE t).run (envD xs x) with | .int _ (.ofNat k) => k | .pointer (some a) => a.block | .complex _ k _ => 5000 + k | _ => 99999
noncomputable def whyN (r : Ou) : Nat := match r with | .go _ _ => 1 | .ex _ _ _ => 2 | .ret _ _ => 3 | .pan _ _ _ => 4 | .no y => 1000 + y

end Go.Proofs.YtcocconldmhlnaaGreat
