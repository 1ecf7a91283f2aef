/- The law GroupSnaps: rounds of the loop, server 2 away (a). -/
import Derived.Test.YtoojkcadgocbdaaGreatSr
namespace Go.Proofs.YtoojkcadgocbdaaGreat
open Go Go.Cx Go.RowKit

set_option maxRecDepth 1000000 in
theorem P2_14_h : okN 2 X3 P2_14 (goS P2_0 14 0) = true := by kernel_rfl
set_option maxRecDepth 1000000 in
theorem P2_25_h : okN 2 X3 P2_25 (goS P2_14 11 14) = true := by kernel_rfl
set_option maxRecDepth 1000000 in
theorem P2a_g2 : (okN 2 X3 P2_30 (goS P2_25 5 25) = true) ∧ (okN 2 X3 P2_31 (goS P2_30 1 30) = true) ∧ (okN 2 X3 P2_32 (goS P2_31 1 31) = true) ∧ (okN 2 X3 P2_33 (goS P2_32 1 32) = true) ∧ (okN 2 X3 P2_34 (goS P2_33 1 33) = true) := ⟨by kernel_rfl, by kernel_rfl, by kernel_rfl, by kernel_rfl, by kernel_rfl⟩
theorem P2_30_h : okN 2 X3 P2_30 (goS P2_25 5 25) = true := P2a_g2.1
theorem P2_31_h : okN 2 X3 P2_31 (goS P2_30 1 30) = true := P2a_g2.2.1
theorem P2_32_h : okN 2 X3 P2_32 (goS P2_31 1 31) = true := P2a_g2.2.2.1
theorem P2_33_h : okN 2 X3 P2_33 (goS P2_32 1 32) = true := P2a_g2.2.2.2.1
theorem P2_34_h : okN 2 X3 P2_34 (goS P2_33 1 33) = true := P2a_g2.2.2.2.2
set_option maxRecDepth 1000000 in
theorem P2a_g3 : (okN 2 X3 P2_35 (goS P2_34 1 34) = true) ∧ (okN 2 X3 P2_36 (goS P2_35 1 35) = true) ∧ (okN 2 X3 P2_37 (goS P2_36 1 36) = true) ∧ (okN 2 X3 P2_38 (goS P2_37 1 37) = true) ∧ (okN 2 X3 P2_39 (goS P2_38 1 38) = true) ∧ (okN 2 X3 P2_40 (goS P2_39 1 39) = true) ∧ (okN 2 X3 P2_41 (goS P2_40 1 40) = true) ∧ (okN 2 X3 P2_42 (goS P2_41 1 41) = true) := ⟨by kernel_rfl, by kernel_rfl, by kernel_rfl, by kernel_rfl, by kernel_rfl, by kernel_rfl, by kernel_rfl, by kernel_rfl⟩
theorem P2_35_h : okN 2 X3 P2_35 (goS P2_34 1 34) = true := P2a_g3.1
theorem P2_36_h : okN 2 X3 P2_36 (goS P2_35 1 35) = true := P2a_g3.2.1
theorem P2_37_h : okN 2 X3 P2_37 (goS P2_36 1 36) = true := P2a_g3.2.2.1
theorem P2_38_h : okN 2 X3 P2_38 (goS P2_37 1 37) = true := P2a_g3.2.2.2.1
theorem P2_39_h : okN 2 X3 P2_39 (goS P2_38 1 38) = true := P2a_g3.2.2.2.2.1
theorem P2_40_h : okN 2 X3 P2_40 (goS P2_39 1 39) = true := P2a_g3.2.2.2.2.2.1
theorem P2_41_h : okN 2 X3 P2_41 (goS P2_40 1 40) = true := P2a_g3.2.2.2.2.2.2.1
theorem P2_42_h : okN 2 X3 P2_42 (goS P2_41 1 41) = true := P2a_g3.2.2.2.2.2.2.2

end Go.Proofs.YtoojkcadgocbdaaGreat
