/- The law GroupSnaps: rounds of the loop, server 1 away (b). -/
import Derived.Test.YtoojkcadgocbdaaGreatSr
namespace Go.Proofs.YtoojkcadgocbdaaGreat
open Go Go.Cx Go.RowKit

set_option maxRecDepth 1000000 in
theorem P1b_g0 : (okN 2 X3 P1_43 (goS P1_42 1 42) = true) ∧ (okN 2 X3 P1_44 (goS P1_43 1 43) = true) ∧ (okN 2 X3 P1_45 (goS P1_44 1 44) = true) ∧ (okN 2 X3 P1_46 (goS P1_45 1 45) = true) ∧ (okN 2 X3 P1_47 (goS P1_46 1 46) = true) ∧ (okN 2 X3 P1_48 (goS P1_47 1 47) = true) ∧ (okN 2 X3 P1_49 (goS P1_48 1 48) = true) ∧ (okN 2 X3 P1_50 (goS P1_49 1 49) = true) ∧ (okN 2 X3 P1_51 (goS P1_50 1 50) = true) ∧ (okN 2 X3 P1_52 (goS P1_51 1 51) = true) := ⟨by kernel_rfl, by kernel_rfl, by kernel_rfl, by kernel_rfl, by kernel_rfl, by kernel_rfl, by kernel_rfl, by kernel_rfl, by kernel_rfl, by kernel_rfl⟩
theorem P1_43_h : okN 2 X3 P1_43 (goS P1_42 1 42) = true := P1b_g0.1
theorem P1_44_h : okN 2 X3 P1_44 (goS P1_43 1 43) = true := P1b_g0.2.1
theorem P1_45_h : okN 2 X3 P1_45 (goS P1_44 1 44) = true := P1b_g0.2.2.1
theorem P1_46_h : okN 2 X3 P1_46 (goS P1_45 1 45) = true := P1b_g0.2.2.2.1
theorem P1_47_h : okN 2 X3 P1_47 (goS P1_46 1 46) = true := P1b_g0.2.2.2.2.1
theorem P1_48_h : okN 2 X3 P1_48 (goS P1_47 1 47) = true := P1b_g0.2.2.2.2.2.1
theorem P1_49_h : okN 2 X3 P1_49 (goS P1_48 1 48) = true := P1b_g0.2.2.2.2.2.2.1
theorem P1_50_h : okN 2 X3 P1_50 (goS P1_49 1 49) = true := P1b_g0.2.2.2.2.2.2.2.1
theorem P1_51_h : okN 2 X3 P1_51 (goS P1_50 1 50) = true := P1b_g0.2.2.2.2.2.2.2.2.1
theorem P1_52_h : okN 2 X3 P1_52 (goS P1_51 1 51) = true := P1b_g0.2.2.2.2.2.2.2.2.2
set_option maxRecDepth 1000000 in
theorem P1b_g1 : (okN 2 X3 P1_53 (goS P1_52 1 52) = true) ∧ (okN 2 X3 P1_54 (goS P1_53 1 53) = true) ∧ (okN 2 X3 P1_55 (goS P1_54 1 54) = true) ∧ (okN 2 X3 P1_56 (goS P1_55 1 55) = true) ∧ (okN 2 X3 P1_57 (goS P1_56 1 56) = true) ∧ (okN 2 X3 P1_58 (goS P1_57 1 57) = true) ∧ (okN 2 X3 P1_59 (goS P1_58 1 58) = true) ∧ (okN 2 X3 P1_60 (goS P1_59 1 59) = true) := ⟨by kernel_rfl, by kernel_rfl, by kernel_rfl, by kernel_rfl, by kernel_rfl, by kernel_rfl, by kernel_rfl, by kernel_rfl⟩
theorem P1_53_h : okN 2 X3 P1_53 (goS P1_52 1 52) = true := P1b_g1.1
theorem P1_54_h : okN 2 X3 P1_54 (goS P1_53 1 53) = true := P1b_g1.2.1
theorem P1_55_h : okN 2 X3 P1_55 (goS P1_54 1 54) = true := P1b_g1.2.2.1
theorem P1_56_h : okN 2 X3 P1_56 (goS P1_55 1 55) = true := P1b_g1.2.2.2.1
theorem P1_57_h : okN 2 X3 P1_57 (goS P1_56 1 56) = true := P1b_g1.2.2.2.2.1
theorem P1_58_h : okN 2 X3 P1_58 (goS P1_57 1 57) = true := P1b_g1.2.2.2.2.2.1
theorem P1_59_h : okN 2 X3 P1_59 (goS P1_58 1 58) = true := P1b_g1.2.2.2.2.2.2.1
theorem P1_60_h : okN 2 X3 P1_60 (goS P1_59 1 59) = true := P1b_g1.2.2.2.2.2.2.2
set_option maxRecDepth 1000000 in
theorem P1b_g2 : (okN 2 X3 P1_61 (goS P1_60 1 60) = true) ∧ (okN 2 X3 P1_62 (goS P1_61 1 61) = true) ∧ (okN 2 X3 P1_63 (goS P1_62 1 62) = true) ∧ (okN 2 X3 P1_64 (goS P1_63 1 63) = true) ∧ (okN 2 X3 P1_65 (goS P1_64 1 64) = true) ∧ (okN 2 X3 P1_66 (goS P1_65 1 65) = true) ∧ (okN 2 X3 P1_67 (goS P1_66 1 66) = true) ∧ (okN 2 X3 P1_68 (goS P1_67 1 67) = true) := ⟨by kernel_rfl, by kernel_rfl, by kernel_rfl, by kernel_rfl, by kernel_rfl, by kernel_rfl, by kernel_rfl, by kernel_rfl⟩
theorem P1_61_h : okN 2 X3 P1_61 (goS P1_60 1 60) = true := P1b_g2.1
theorem P1_62_h : okN 2 X3 P1_62 (goS P1_61 1 61) = true := P1b_g2.2.1
theorem P1_63_h : okN 2 X3 P1_63 (goS P1_62 1 62) = true := P1b_g2.2.2.1
theorem P1_64_h : okN 2 X3 P1_64 (goS P1_63 1 63) = true := P1b_g2.2.2.2.1
theorem P1_65_h : okN 2 X3 P1_65 (goS P1_64 1 64) = true := P1b_g2.2.2.2.2.1
theorem P1_66_h : okN 2 X3 P1_66 (goS P1_65 1 65) = true := P1b_g2.2.2.2.2.2.1
theorem P1_67_h : okN 2 X3 P1_67 (goS P1_66 1 66) = true := P1b_g2.2.2.2.2.2.2.1
theorem P1_68_h : okN 2 X3 P1_68 (goS P1_67 1 67) = true := P1b_g2.2.2.2.2.2.2.2
set_option maxRecDepth 1000000 in
theorem P1_69_h : okN 2 X3 P1_69 (goS P1_68 1 68) = true := by kernel_rfl

end Go.Proofs.YtoojkcadgocbdaaGreat
