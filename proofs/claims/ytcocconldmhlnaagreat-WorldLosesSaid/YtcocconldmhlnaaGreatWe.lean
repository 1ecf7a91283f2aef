/- The law WorldLoses: its body, piece by piece. -/
import Derived.Test.YtcocconldmhlnaaGreatWc
import Derived.Test.YtcocconldmhlnaaGreatWg
namespace Go.Proofs.YtcocconldmhlnaaGreat
open Go Go.Cx Go.RowKit

noncomputable def sy (k : Nat) : Value := .complex .f32 k 2
abbrev Orc := FuncId → List Value → W → Option Re
noncomputable def o0 : Orc := fun _ _ _ => none
noncomputable def cfo (o : Orc) : CallF := evH Tryz.prog 100000 (orc2 o deskO) 100
noncomputable def rn3 (o : Orc) (c : Code) (env : Env) (U : W) : Ou := (cCode Tryz.prog 100000 N3 X3 c).run (cfo o) env U
noncomputable def pr3 (o : Orc) (k : Nat) (c : Code) (env : Env) (U : W) : Ou := preSeq Tryz.prog 100000 N3 X3 (cfo o) k c env U
noncomputable def readyO (p z : Nat) : Orc := orcS 6 [] [] 2 (.pointer (some ⟨p, 0, none⟩)) (lD X10 z) (nD X10 z)
noncomputable def startA (ro : Orc) (n0 : Nat) : Ou := thn (pr3 (orc2 (orcV (orc 0 6 (sy 2))) ro) 4 c3 (env0 [sy 0, sy 1] 0 env00) w02) fun e U => pr3 o0 1 (dropSeq 4 c3) (subE 0 2 (numV n0) e) U
/-- k statements from the j-th on, in the state of a number -/
noncomputable def at3 (o : Orc) (j k x : Nat) : Ou := pr3 o k (dropSeq j c3) (envD X3 x) (WD X3 x)
noncomputable def at3b (o : Orc) (j k : Nat) (b : Bool) (x : Nat) : Ou := pr3 o k (dropSeq j c3) (subE 1 1 (.bool b) (envD X3 x)) (WD X3 x)
/-- the answer, from the j-th statement on -/
noncomputable def end3 (o : Orc) (j x : Nat) : Bool := isB true (ending Tryz.prog cf0 100000 3 w02 (rn3 o (dropSeq j c3) (envD X3 x) (WD X3 x)))

/- Lose. -/
noncomputable def c11 : Code := match Tryz.f11.body with | some c => c | none => .skip
noncomputable def N11 : Nat := Tryz.f11.ntmps
noncomputable def X11 : Nat := xsOf Tryz.f11 c11
noncomputable def rn11 (c : Code) (env : Env) (U : W) : Ou := (cCode Tryz.prog 100000 N11 X11 c).run cf0 env U
noncomputable def pr11 (k : Nat) (c : Code) (env : Env) (U : W) : Ou := preSeq Tryz.prog 100000 N11 X11 cf0 k c env U
noncomputable def go11 (xs x p i : Nat) : Ou := pr11 2 c11 (env0 [.pointer (some ⟨p, 0, none⟩), numV i] 0 env00) (WD xs x)
/-- the number in a slot -/
noncomputable def natAt (xs x t : Nat) : Nat := match (getE t).run (envD xs x) with | .int _ (.ofNat k) => k | .pointer (some a) => a.block | _ => 99999
noncomputable def syncO (xs x p r y : Nat) : Orc := orcS 10 [.pointer (some ⟨p, 0, none⟩), numV r] (lD xs x) (nD xs x) (.tuple #[]) (lD X10 y) (nD X10 y)
noncomputable def loseO (xs x p i v y : Nat) : Orc := orcS 11 [.pointer (some ⟨p, 0, none⟩), numV i] (lD xs x) (nD xs x) (numV v) (lD X11 y) (nD X11 y)

end Go.Proofs.YtcocconldmhlnaaGreat
