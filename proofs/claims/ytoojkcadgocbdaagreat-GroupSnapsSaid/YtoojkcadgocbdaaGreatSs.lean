/- The law GroupSnaps: the way into the loop. -/
import Derived.Test.YtoojkcadgocbdaaGreatSr
namespace Go.Proofs.YtoojkcadgocbdaaGreat
open Go Go.Cx Go.RowKit

set_option maxRecDepth 1000000 in
theorem S0_all : allN (fun i => okN 2 X3 S0 (startS (Nat.add 30 i) 1) && okN 2 X3 S0 (startS (Nat.add 30 i) 2)) 40 = true := by kernel_rfl
theorem S0_h1 {i : Nat} (h : i < 40) : okN 2 X3 S0 (startS (30 + i) 1) = true := (Bool.and_eq_true _ _ ▸ allN_spec S0_all i h).1
theorem S0_h2 {i : Nat} (h : i < 40) : okN 2 X3 S0 (startS (30 + i) 2) = true := (Bool.and_eq_true _ _ ▸ allN_spec S0_all i h).2
set_option maxRecDepth 1000000 in
theorem S_g : (okN 2 X3 S1 (at3 o0 3 1 S0) = true) ∧ (okN 2 X3 P1_0 (startL 1 S1) = true) ∧ (okN 2 X3 P2_0 (startL 2 S1) = true) := ⟨by kernel_rfl, by kernel_rfl, by kernel_rfl⟩
theorem S1_h : okN 2 X3 S1 (at3 o0 3 1 S0) = true := S_g.1
theorem P1_0_h : okN 2 X3 P1_0 (startL 1 S1) = true := S_g.2.1
theorem P2_0_h : okN 2 X3 P2_0 (startL 2 S1) = true := S_g.2.2

end Go.Proofs.YtoojkcadgocbdaaGreat
