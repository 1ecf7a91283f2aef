/- The law GroupSnaps: rounds of the loop, server 1 away (a). -/
import Derived.Test.YtoojkcadgocbdaaGreatSr
namespace Go.Proofs.YtoojkcadgocbdaaGreat
open Go Go.Cx Go.RowKit

set_option maxRecDepth 1000000 in
theorem P1_14_h : okN 2 X3 P1_14 (goS P1_0 14 0) = true := by kernel_rfl
set_option maxRecDepth 1000000 in
theorem P1_25_h : okN 2 X3 P1_25 (goS P1_14 11 14) = true := by kernel_rfl
set_option maxRecDepth 1000000 in
theorem P1a_g2 : (okN 2 X3 P1_30 (goS P1_25 5 25) = true) ∧ (okN 2 X3 P1_31 (goS P1_30 1 30) = true) ∧ (okN 2 X3 P1_32 (goS P1_31 1 31) = true) ∧ (okN 2 X3 P1_33 (goS P1_32 1 32) = true) ∧ (okN 2 X3 P1_34 (goS P1_33 1 33) = true) := ⟨by kernel_rfl, by kernel_rfl, by kernel_rfl, by kernel_rfl, by kernel_rfl⟩
theorem P1_30_h : okN 2 X3 P1_30 (goS P1_25 5 25) = true := P1a_g2.1
theorem P1_31_h : okN 2 X3 P1_31 (goS P1_30 1 30) = true := P1a_g2.2.1
theorem P1_32_h : okN 2 X3 P1_32 (goS P1_31 1 31) = true := P1a_g2.2.2.1
theorem P1_33_h : okN 2 X3 P1_33 (goS P1_32 1 32) = true := P1a_g2.2.2.2.1
theorem P1_34_h : okN 2 X3 P1_34 (goS P1_33 1 33) = true := P1a_g2.2.2.2.2
set_option maxRecDepth 1000000 in
theorem P1a_g3 : (okN 2 X3 P1_35 (goS P1_34 1 34) = true) ∧ (okN 2 X3 P1_36 (goS P1_35 1 35) = true) ∧ (okN 2 X3 P1_37 (goS P1_36 1 36) = true) ∧ (okN 2 X3 P1_38 (goS P1_37 1 37) = true) ∧ (okN 2 X3 P1_39 (goS P1_38 1 38) = true) ∧ (okN 2 X3 P1_40 (goS P1_39 1 39) = true) ∧ (okN 2 X3 P1_41 (goS P1_40 1 40) = true) ∧ (okN 2 X3 P1_42 (goS P1_41 1 41) = true) := ⟨by kernel_rfl, by kernel_rfl, by kernel_rfl, by kernel_rfl, by kernel_rfl, by kernel_rfl, by kernel_rfl, by kernel_rfl⟩
theorem P1_35_h : okN 2 X3 P1_35 (goS P1_34 1 34) = true := P1a_g3.1
theorem P1_36_h : okN 2 X3 P1_36 (goS P1_35 1 35) = true := P1a_g3.2.1
theorem P1_37_h : okN 2 X3 P1_37 (goS P1_36 1 36) = true := P1a_g3.2.2.1
theorem P1_38_h : okN 2 X3 P1_38 (goS P1_37 1 37) = true := P1a_g3.2.2.2.1
theorem P1_39_h : okN 2 X3 P1_39 (goS P1_38 1 38) = true := P1a_g3.2.2.2.2.1
theorem P1_40_h : okN 2 X3 P1_40 (goS P1_39 1 39) = true := P1a_g3.2.2.2.2.2.1
theorem P1_41_h : okN 2 X3 P1_41 (goS P1_40 1 40) = true := P1a_g3.2.2.2.2.2.2.1
theorem P1_42_h : okN 2 X3 P1_42 (goS P1_41 1 41) = true := P1a_g3.2.2.2.2.2.2.2

end Go.Proofs.YtoojkcadgocbdaaGreat
