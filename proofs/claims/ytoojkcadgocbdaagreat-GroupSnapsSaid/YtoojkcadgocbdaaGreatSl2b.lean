/- The law GroupSnaps: rounds of the loop, server 2 away (b). -/
import Derived.Test.YtoojkcadgocbdaaGreatSr
namespace Go.Proofs.YtoojkcadgocbdaaGreat
open Go Go.Cx Go.RowKit

set_option maxRecDepth 1000000 in
theorem P2b_g0 : (okN 2 X3 P2_43 (goS P2_42 1 42) = true) ∧ (okN 2 X3 P2_44 (goS P2_43 1 43) = true) ∧ (okN 2 X3 P2_45 (goS P2_44 1 44) = true) ∧ (okN 2 X3 P2_46 (goS P2_45 1 45) = true) ∧ (okN 2 X3 P2_47 (goS P2_46 1 46) = true) ∧ (okN 2 X3 P2_48 (goS P2_47 1 47) = true) ∧ (okN 2 X3 P2_49 (goS P2_48 1 48) = true) ∧ (okN 2 X3 P2_50 (goS P2_49 1 49) = true) ∧ (okN 2 X3 P2_51 (goS P2_50 1 50) = true) ∧ (okN 2 X3 P2_52 (goS P2_51 1 51) = true) := ⟨by kernel_rfl, by kernel_rfl, by kernel_rfl, by kernel_rfl, by kernel_rfl, by kernel_rfl, by kernel_rfl, by kernel_rfl, by kernel_rfl, by kernel_rfl⟩
theorem P2_43_h : okN 2 X3 P2_43 (goS P2_42 1 42) = true := P2b_g0.1
theorem P2_44_h : okN 2 X3 P2_44 (goS P2_43 1 43) = true := P2b_g0.2.1
theorem P2_45_h : okN 2 X3 P2_45 (goS P2_44 1 44) = true := P2b_g0.2.2.1
theorem P2_46_h : okN 2 X3 P2_46 (goS P2_45 1 45) = true := P2b_g0.2.2.2.1
theorem P2_47_h : okN 2 X3 P2_47 (goS P2_46 1 46) = true := P2b_g0.2.2.2.2.1
theorem P2_48_h : okN 2 X3 P2_48 (goS P2_47 1 47) = true := P2b_g0.2.2.2.2.2.1
theorem P2_49_h : okN 2 X3 P2_49 (goS P2_48 1 48) = true := P2b_g0.2.2.2.2.2.2.1
theorem P2_50_h : okN 2 X3 P2_50 (goS P2_49 1 49) = true := P2b_g0.2.2.2.2.2.2.2.1
theorem P2_51_h : okN 2 X3 P2_51 (goS P2_50 1 50) = true := P2b_g0.2.2.2.2.2.2.2.2.1
theorem P2_52_h : okN 2 X3 P2_52 (goS P2_51 1 51) = true := P2b_g0.2.2.2.2.2.2.2.2.2
set_option maxRecDepth 1000000 in
theorem P2b_g1 : (okN 2 X3 P2_53 (goS P2_52 1 52) = true) ∧ (okN 2 X3 P2_54 (goS P2_53 1 53) = true) ∧ (okN 2 X3 P2_55 (goS P2_54 1 54) = true) ∧ (okN 2 X3 P2_56 (goS P2_55 1 55) = true) ∧ (okN 2 X3 P2_57 (goS P2_56 1 56) = true) ∧ (okN 2 X3 P2_58 (goS P2_57 1 57) = true) ∧ (okN 2 X3 P2_59 (goS P2_58 1 58) = true) ∧ (okN 2 X3 P2_60 (goS P2_59 1 59) = true) := ⟨by kernel_rfl, by kernel_rfl, by kernel_rfl, by kernel_rfl, by kernel_rfl, by kernel_rfl, by kernel_rfl, by kernel_rfl⟩
theorem P2_53_h : okN 2 X3 P2_53 (goS P2_52 1 52) = true := P2b_g1.1
theorem P2_54_h : okN 2 X3 P2_54 (goS P2_53 1 53) = true := P2b_g1.2.1
theorem P2_55_h : okN 2 X3 P2_55 (goS P2_54 1 54) = true := P2b_g1.2.2.1
theorem P2_56_h : okN 2 X3 P2_56 (goS P2_55 1 55) = true := P2b_g1.2.2.2.1
theorem P2_57_h : okN 2 X3 P2_57 (goS P2_56 1 56) = true := P2b_g1.2.2.2.2.1
theorem P2_58_h : okN 2 X3 P2_58 (goS P2_57 1 57) = true := P2b_g1.2.2.2.2.2.1
theorem P2_59_h : okN 2 X3 P2_59 (goS P2_58 1 58) = true := P2b_g1.2.2.2.2.2.2.1
theorem P2_60_h : okN 2 X3 P2_60 (goS P2_59 1 59) = true := P2b_g1.2.2.2.2.2.2.2
set_option maxRecDepth 1000000 in
theorem P2b_g2 : (okN 2 X3 P2_61 (goS P2_60 1 60) = true) ∧ (okN 2 X3 P2_62 (goS P2_61 1 61) = true) ∧ (okN 2 X3 P2_63 (goS P2_62 1 62) = true) ∧ (okN 2 X3 P2_64 (goS P2_63 1 63) = true) ∧ (okN 2 X3 P2_65 (goS P2_64 1 64) = true) ∧ (okN 2 X3 P2_66 (goS P2_65 1 65) = true) ∧ (okN 2 X3 P2_67 (goS P2_66 1 66) = true) ∧ (okN 2 X3 P2_68 (goS P2_67 1 67) = true) := ⟨by kernel_rfl, by kernel_rfl, by kernel_rfl, by kernel_rfl, by kernel_rfl, by kernel_rfl, by kernel_rfl, by kernel_rfl⟩
theorem P2_61_h : okN 2 X3 P2_61 (goS P2_60 1 60) = true := P2b_g2.1
theorem P2_62_h : okN 2 X3 P2_62 (goS P2_61 1 61) = true := P2b_g2.2.1
theorem P2_63_h : okN 2 X3 P2_63 (goS P2_62 1 62) = true := P2b_g2.2.2.1
theorem P2_64_h : okN 2 X3 P2_64 (goS P2_63 1 63) = true := P2b_g2.2.2.2.1
theorem P2_65_h : okN 2 X3 P2_65 (goS P2_64 1 64) = true := P2b_g2.2.2.2.2.1
theorem P2_66_h : okN 2 X3 P2_66 (goS P2_65 1 65) = true := P2b_g2.2.2.2.2.2.1
theorem P2_67_h : okN 2 X3 P2_67 (goS P2_66 1 66) = true := P2b_g2.2.2.2.2.2.2.1
theorem P2_68_h : okN 2 X3 P2_68 (goS P2_67 1 67) = true := P2b_g2.2.2.2.2.2.2.2
set_option maxRecDepth 1000000 in
theorem P2_69_h : okN 2 X3 P2_69 (goS P2_68 1 68) = true := by kernel_rfl

end Go.Proofs.YtoojkcadgocbdaaGreat
