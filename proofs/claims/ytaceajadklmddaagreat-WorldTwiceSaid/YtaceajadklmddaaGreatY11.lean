/- The law WorldTwice: what happens (11). -/
import Derived.Test.YtaceajadklmddaaGreatXn0
namespace Go.Proofs.YtaceajadklmddaaGreat
open Go Go.Cx Go.RowKit

set_option maxRecDepth 1000000 in
theorem Y11_g0 : (dB S3_28 0 S3_38 = true) ∧ (dB S3_28 1 S3_38 = true) ∧ (dB S3_28 2 S3_39 = true) ∧ (dB S3_28 3 S3_39 = true) ∧ (dB S3_28 4 S3_39 = true) ∧ (undB S3_29 4 = true) := ⟨by kernel_rfl, by kernel_rfl, by kernel_rfl, by kernel_rfl, by kernel_rfl, by kernel_rfl⟩
theorem d3_28_0 : dB S3_28 0 S3_38 = true := Y11_g0.1
theorem d3_28_1 : dB S3_28 1 S3_38 = true := Y11_g0.2.1
theorem d3_28_2 : dB S3_28 2 S3_39 = true := Y11_g0.2.2.1
theorem d3_28_3 : dB S3_28 3 S3_39 = true := Y11_g0.2.2.2.1
theorem d3_28_4 : dB S3_28 4 S3_39 = true := Y11_g0.2.2.2.2.1
theorem u3_29 : undB S3_29 4 = true := Y11_g0.2.2.2.2.2
set_option maxRecDepth 1000000 in
theorem Y11_g1 : (dB S3_29 0 S3_39 = true) ∧ (dB S3_29 1 S3_39 = true) ∧ (dB S3_29 2 S3_39 = true) ∧ (dB S3_29 3 S3_40 = true) ∧ (undB S3_30 6 = true) := ⟨by kernel_rfl, by kernel_rfl, by kernel_rfl, by kernel_rfl, by kernel_rfl⟩
theorem d3_29_0 : dB S3_29 0 S3_39 = true := Y11_g1.1
theorem d3_29_1 : dB S3_29 1 S3_39 = true := Y11_g1.2.1
theorem d3_29_2 : dB S3_29 2 S3_39 = true := Y11_g1.2.2.1
theorem d3_29_3 : dB S3_29 3 S3_40 = true := Y11_g1.2.2.2.1
theorem u3_30 : undB S3_30 6 = true := Y11_g1.2.2.2.2
set_option maxRecDepth 1000000 in
theorem Y11_g2 : (dB S3_30 0 S3_41 = true) ∧ (dB S3_30 1 S3_41 = true) ∧ (dB S3_30 2 S3_41 = true) ∧ (dB S3_30 3 S3_42 = true) := ⟨by kernel_rfl, by kernel_rfl, by kernel_rfl, by kernel_rfl⟩
theorem d3_30_0 : dB S3_30 0 S3_41 = true := Y11_g2.1
theorem d3_30_1 : dB S3_30 1 S3_41 = true := Y11_g2.2.1
theorem d3_30_2 : dB S3_30 2 S3_41 = true := Y11_g2.2.2.1
theorem d3_30_3 : dB S3_30 3 S3_42 = true := Y11_g2.2.2.2
set_option maxRecDepth 1000000 in
theorem Y11_g3 : (dB S3_30 4 S3_42 = true) ∧ (dB S3_30 5 S3_42 = true) ∧ (undB S3_31 5 = true) ∧ (dB S3_31 0 S3_42 = true) ∧ (dB S3_31 1 S3_42 = true) := ⟨by kernel_rfl, by kernel_rfl, by kernel_rfl, by kernel_rfl, by kernel_rfl⟩
theorem d3_30_4 : dB S3_30 4 S3_42 = true := Y11_g3.1
theorem d3_30_5 : dB S3_30 5 S3_42 = true := Y11_g3.2.1
theorem u3_31 : undB S3_31 5 = true := Y11_g3.2.2.1
theorem d3_31_0 : dB S3_31 0 S3_42 = true := Y11_g3.2.2.2.1
theorem d3_31_1 : dB S3_31 1 S3_42 = true := Y11_g3.2.2.2.2
set_option maxRecDepth 1000000 in
theorem Y11_g4 : (dB S3_31 2 S3_42 = true) ∧ (dB S3_31 3 S3_42 = true) ∧ (dB S3_31 4 S3_43 = true) ∧ (undB S3_32 0 = true) ∧ (undB S3_33 2 = true) ∧ (dB S3_33 0 S3_44 = true) ∧ (dB S3_33 1 S3_44 = true) ∧ (undB S3_34 1 = true) := ⟨by kernel_rfl, by kernel_rfl, by kernel_rfl, by kernel_rfl, by kernel_rfl, by kernel_rfl, by kernel_rfl, by kernel_rfl⟩
theorem d3_31_2 : dB S3_31 2 S3_42 = true := Y11_g4.1
theorem d3_31_3 : dB S3_31 3 S3_42 = true := Y11_g4.2.1
theorem d3_31_4 : dB S3_31 4 S3_43 = true := Y11_g4.2.2.1
theorem u3_32 : undB S3_32 0 = true := Y11_g4.2.2.2.1
theorem u3_33 : undB S3_33 2 = true := Y11_g4.2.2.2.2.1
theorem d3_33_0 : dB S3_33 0 S3_44 = true := Y11_g4.2.2.2.2.2.1
theorem d3_33_1 : dB S3_33 1 S3_44 = true := Y11_g4.2.2.2.2.2.2.1
theorem u3_34 : undB S3_34 1 = true := Y11_g4.2.2.2.2.2.2.2
set_option maxRecDepth 1000000 in
theorem Y11_g5 : (dB S3_34 0 S3_44 = true) ∧ (undB S3_35 4 = true) ∧ (dB S3_35 0 S3_45 = true) ∧ (dB S3_35 1 S3_45 = true) ∧ (dB S3_35 2 S3_45 = true) ∧ (dB S3_35 3 S3_45 = true) ∧ (undB S3_36 3 = true) ∧ (dB S3_36 0 S3_45 = true) := ⟨by kernel_rfl, by kernel_rfl, by kernel_rfl, by kernel_rfl, by kernel_rfl, by kernel_rfl, by kernel_rfl, by kernel_rfl⟩
theorem d3_34_0 : dB S3_34 0 S3_44 = true := Y11_g5.1
theorem u3_35 : undB S3_35 4 = true := Y11_g5.2.1
theorem d3_35_0 : dB S3_35 0 S3_45 = true := Y11_g5.2.2.1
theorem d3_35_1 : dB S3_35 1 S3_45 = true := Y11_g5.2.2.2.1
theorem d3_35_2 : dB S3_35 2 S3_45 = true := Y11_g5.2.2.2.2.1
theorem d3_35_3 : dB S3_35 3 S3_45 = true := Y11_g5.2.2.2.2.2.1
theorem u3_36 : undB S3_36 3 = true := Y11_g5.2.2.2.2.2.2.1
theorem d3_36_0 : dB S3_36 0 S3_45 = true := Y11_g5.2.2.2.2.2.2.2
set_option maxRecDepth 1000000 in
theorem Y11_g6 : (dB S3_36 1 S3_46 = true) ∧ (dB S3_36 2 S3_46 = true) ∧ (undB S3_37 2 = true) ∧ (dB S3_37 0 S3_46 = true) ∧ (dB S3_37 1 S3_46 = true) ∧ (undB S3_38 5 = true) := ⟨by kernel_rfl, by kernel_rfl, by kernel_rfl, by kernel_rfl, by kernel_rfl, by kernel_rfl⟩
theorem d3_36_1 : dB S3_36 1 S3_46 = true := Y11_g6.1
theorem d3_36_2 : dB S3_36 2 S3_46 = true := Y11_g6.2.1
theorem u3_37 : undB S3_37 2 = true := Y11_g6.2.2.1
theorem d3_37_0 : dB S3_37 0 S3_46 = true := Y11_g6.2.2.2.1
theorem d3_37_1 : dB S3_37 1 S3_46 = true := Y11_g6.2.2.2.2.1
theorem u3_38 : undB S3_38 5 = true := Y11_g6.2.2.2.2.2
set_option maxRecDepth 1000000 in
theorem Y11_g7 : (dB S3_38 0 S3_47 = true) ∧ (dB S3_38 1 S3_48 = true) ∧ (dB S3_38 2 S3_48 = true) ∧ (dB S3_38 3 S3_48 = true) ∧ (dB S3_38 4 S3_48 = true) ∧ (undB S3_39 4 = true) ∧ (dB S3_39 0 S3_48 = true) := ⟨by kernel_rfl, by kernel_rfl, by kernel_rfl, by kernel_rfl, by kernel_rfl, by kernel_rfl, by kernel_rfl⟩
theorem d3_38_0 : dB S3_38 0 S3_47 = true := Y11_g7.1
theorem d3_38_1 : dB S3_38 1 S3_48 = true := Y11_g7.2.1
theorem d3_38_2 : dB S3_38 2 S3_48 = true := Y11_g7.2.2.1
theorem d3_38_3 : dB S3_38 3 S3_48 = true := Y11_g7.2.2.2.1
theorem d3_38_4 : dB S3_38 4 S3_48 = true := Y11_g7.2.2.2.2.1
theorem u3_39 : undB S3_39 4 = true := Y11_g7.2.2.2.2.2.1
theorem d3_39_0 : dB S3_39 0 S3_48 = true := Y11_g7.2.2.2.2.2.2
set_option maxRecDepth 1000000 in
theorem Y11_g8 : (dB S3_39 1 S3_48 = true) ∧ (dB S3_39 2 S3_49 = true) ∧ (dB S3_39 3 S3_49 = true) ∧ (undB S3_40 3 = true) ∧ (dB S3_40 0 S3_49 = true) := ⟨by kernel_rfl, by kernel_rfl, by kernel_rfl, by kernel_rfl, by kernel_rfl⟩
theorem d3_39_1 : dB S3_39 1 S3_48 = true := Y11_g8.1
theorem d3_39_2 : dB S3_39 2 S3_49 = true := Y11_g8.2.1
theorem d3_39_3 : dB S3_39 3 S3_49 = true := Y11_g8.2.2.1
theorem u3_40 : undB S3_40 3 = true := Y11_g8.2.2.2.1
theorem d3_40_0 : dB S3_40 0 S3_49 = true := Y11_g8.2.2.2.2
set_option maxRecDepth 1000000 in
theorem Y11_g9 : (dB S3_40 1 S3_49 = true) ∧ (dB S3_40 2 S3_49 = true) ∧ (undB S3_41 6 = true) ∧ (dB S3_41 0 S3_50 = true) := ⟨by kernel_rfl, by kernel_rfl, by kernel_rfl, by kernel_rfl⟩
theorem d3_40_1 : dB S3_40 1 S3_49 = true := Y11_g9.1
theorem d3_40_2 : dB S3_40 2 S3_49 = true := Y11_g9.2.1
theorem u3_41 : undB S3_41 6 = true := Y11_g9.2.2.1
theorem d3_41_0 : dB S3_41 0 S3_50 = true := Y11_g9.2.2.2
set_option maxRecDepth 1000000 in
theorem d3_41_1 : dB S3_41 1 S3_50 = true := by kernel_rfl

end Go.Proofs.YtaceajadklmddaaGreat
