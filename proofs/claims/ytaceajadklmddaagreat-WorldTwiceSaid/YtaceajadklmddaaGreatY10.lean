/- The law WorldTwice: what happens (10). -/
import Derived.Test.YtaceajadklmddaaGreatXn0
namespace Go.Proofs.YtaceajadklmddaaGreat
open Go Go.Cx Go.RowKit

set_option maxRecDepth 1000000 in
theorem Y10_g0 : (dB S3_16 1 S3_25 = true) ∧ (undB S3_17 4 = true) ∧ (dB S3_17 0 S3_26 = true) ∧ (dB S3_17 1 S3_26 = true) ∧ (dB S3_17 2 S3_27 = true) := ⟨by kernel_rfl, by kernel_rfl, by kernel_rfl, by kernel_rfl, by kernel_rfl⟩
theorem d3_16_1 : dB S3_16 1 S3_25 = true := Y10_g0.1
theorem u3_17 : undB S3_17 4 = true := Y10_g0.2.1
theorem d3_17_0 : dB S3_17 0 S3_26 = true := Y10_g0.2.2.1
theorem d3_17_1 : dB S3_17 1 S3_26 = true := Y10_g0.2.2.2.1
theorem d3_17_2 : dB S3_17 2 S3_27 = true := Y10_g0.2.2.2.2
set_option maxRecDepth 1000000 in
theorem Y10_g1 : (dB S3_17 3 S3_27 = true) ∧ (undB S3_18 3 = true) ∧ (dB S3_18 0 S3_27 = true) ∧ (dB S3_18 1 S3_27 = true) := ⟨by kernel_rfl, by kernel_rfl, by kernel_rfl, by kernel_rfl⟩
theorem d3_17_3 : dB S3_17 3 S3_27 = true := Y10_g1.1
theorem u3_18 : undB S3_18 3 = true := Y10_g1.2.1
theorem d3_18_0 : dB S3_18 0 S3_27 = true := Y10_g1.2.2.1
theorem d3_18_1 : dB S3_18 1 S3_27 = true := Y10_g1.2.2.2
set_option maxRecDepth 1000000 in
theorem Y10_g2 : (dB S3_18 2 S3_27 = true) ∧ (undB S3_19 5 = true) ∧ (dB S3_19 0 S3_28 = true) ∧ (dB S3_19 1 S3_28 = true) := ⟨by kernel_rfl, by kernel_rfl, by kernel_rfl, by kernel_rfl⟩
theorem d3_18_2 : dB S3_18 2 S3_27 = true := Y10_g2.1
theorem u3_19 : undB S3_19 5 = true := Y10_g2.2.1
theorem d3_19_0 : dB S3_19 0 S3_28 = true := Y10_g2.2.2.1
theorem d3_19_1 : dB S3_19 1 S3_28 = true := Y10_g2.2.2.2
set_option maxRecDepth 1000000 in
theorem Y10_g3 : (dB S3_19 2 S3_28 = true) ∧ (dB S3_19 3 S3_29 = true) ∧ (dB S3_19 4 S3_29 = true) ∧ (undB S3_20 4 = true) ∧ (dB S3_20 0 S3_29 = true) := ⟨by kernel_rfl, by kernel_rfl, by kernel_rfl, by kernel_rfl, by kernel_rfl⟩
theorem d3_19_2 : dB S3_19 2 S3_28 = true := Y10_g3.1
theorem d3_19_3 : dB S3_19 3 S3_29 = true := Y10_g3.2.1
theorem d3_19_4 : dB S3_19 4 S3_29 = true := Y10_g3.2.2.1
theorem u3_20 : undB S3_20 4 = true := Y10_g3.2.2.2.1
theorem d3_20_0 : dB S3_20 0 S3_29 = true := Y10_g3.2.2.2.2
set_option maxRecDepth 1000000 in
theorem Y10_g4 : (dB S3_20 1 S3_29 = true) ∧ (dB S3_20 2 S3_29 = true) ∧ (dB S3_20 3 S3_29 = true) ∧ (undB S3_21 6 = true) := ⟨by kernel_rfl, by kernel_rfl, by kernel_rfl, by kernel_rfl⟩
theorem d3_20_1 : dB S3_20 1 S3_29 = true := Y10_g4.1
theorem d3_20_2 : dB S3_20 2 S3_29 = true := Y10_g4.2.1
theorem d3_20_3 : dB S3_20 3 S3_29 = true := Y10_g4.2.2.1
theorem u3_21 : undB S3_21 6 = true := Y10_g4.2.2.2
set_option maxRecDepth 1000000 in
theorem Y10_g5 : (dB S3_21 0 S3_30 = true) ∧ (dB S3_21 1 S3_30 = true) ∧ (dB S3_21 2 S3_30 = true) := ⟨by kernel_rfl, by kernel_rfl, by kernel_rfl⟩
theorem d3_21_0 : dB S3_21 0 S3_30 = true := Y10_g5.1
theorem d3_21_1 : dB S3_21 1 S3_30 = true := Y10_g5.2.1
theorem d3_21_2 : dB S3_21 2 S3_30 = true := Y10_g5.2.2
set_option maxRecDepth 1000000 in
theorem Y10_g6 : (dB S3_21 3 S3_30 = true) ∧ (dB S3_21 4 S3_31 = true) ∧ (dB S3_21 5 S3_31 = true) ∧ (undB S3_22 5 = true) ∧ (dB S3_22 0 S3_31 = true) := ⟨by kernel_rfl, by kernel_rfl, by kernel_rfl, by kernel_rfl, by kernel_rfl⟩
theorem d3_21_3 : dB S3_21 3 S3_30 = true := Y10_g6.1
theorem d3_21_4 : dB S3_21 4 S3_31 = true := Y10_g6.2.1
theorem d3_21_5 : dB S3_21 5 S3_31 = true := Y10_g6.2.2.1
theorem u3_22 : undB S3_22 5 = true := Y10_g6.2.2.2.1
theorem d3_22_0 : dB S3_22 0 S3_31 = true := Y10_g6.2.2.2.2
set_option maxRecDepth 1000000 in
theorem Y10_g7 : (dB S3_22 1 S3_31 = true) ∧ (dB S3_22 2 S3_31 = true) ∧ (dB S3_22 3 S3_31 = true) := ⟨by kernel_rfl, by kernel_rfl, by kernel_rfl⟩
theorem d3_22_1 : dB S3_22 1 S3_31 = true := Y10_g7.1
theorem d3_22_2 : dB S3_22 2 S3_31 = true := Y10_g7.2.1
theorem d3_22_3 : dB S3_22 3 S3_31 = true := Y10_g7.2.2
set_option maxRecDepth 1000000 in
theorem Y10_g8 : (dB S3_22 4 S3_31 = true) ∧ (undB S3_23 1 = true) ∧ (dB S3_23 0 S3_32 = true) ∧ (undB S3_24 3 = true) ∧ (dB S3_24 0 S3_33 = true) ∧ (dB S3_24 1 S3_33 = true) ∧ (dB S3_24 2 S3_33 = true) ∧ (undB S3_25 2 = true) := ⟨by kernel_rfl, by kernel_rfl, by kernel_rfl, by kernel_rfl, by kernel_rfl, by kernel_rfl, by kernel_rfl, by kernel_rfl⟩
theorem d3_22_4 : dB S3_22 4 S3_31 = true := Y10_g8.1
theorem u3_23 : undB S3_23 1 = true := Y10_g8.2.1
theorem d3_23_0 : dB S3_23 0 S3_32 = true := Y10_g8.2.2.1
theorem u3_24 : undB S3_24 3 = true := Y10_g8.2.2.2.1
theorem d3_24_0 : dB S3_24 0 S3_33 = true := Y10_g8.2.2.2.2.1
theorem d3_24_1 : dB S3_24 1 S3_33 = true := Y10_g8.2.2.2.2.2.1
theorem d3_24_2 : dB S3_24 2 S3_33 = true := Y10_g8.2.2.2.2.2.2.1
theorem u3_25 : undB S3_25 2 = true := Y10_g8.2.2.2.2.2.2.2
set_option maxRecDepth 1000000 in
theorem Y10_g9 : (dB S3_25 0 S3_33 = true) ∧ (dB S3_25 1 S3_34 = true) ∧ (undB S3_26 4 = true) ∧ (dB S3_26 0 S3_35 = true) ∧ (dB S3_26 1 S3_36 = true) ∧ (dB S3_26 2 S3_36 = true) ∧ (dB S3_26 3 S3_36 = true) ∧ (undB S3_27 3 = true) := ⟨by kernel_rfl, by kernel_rfl, by kernel_rfl, by kernel_rfl, by kernel_rfl, by kernel_rfl, by kernel_rfl, by kernel_rfl⟩
theorem d3_25_0 : dB S3_25 0 S3_33 = true := Y10_g9.1
theorem d3_25_1 : dB S3_25 1 S3_34 = true := Y10_g9.2.1
theorem u3_26 : undB S3_26 4 = true := Y10_g9.2.2.1
theorem d3_26_0 : dB S3_26 0 S3_35 = true := Y10_g9.2.2.2.1
theorem d3_26_1 : dB S3_26 1 S3_36 = true := Y10_g9.2.2.2.2.1
theorem d3_26_2 : dB S3_26 2 S3_36 = true := Y10_g9.2.2.2.2.2.1
theorem d3_26_3 : dB S3_26 3 S3_36 = true := Y10_g9.2.2.2.2.2.2.1
theorem u3_27 : undB S3_27 3 = true := Y10_g9.2.2.2.2.2.2.2
set_option maxRecDepth 1000000 in
theorem Y10_g10 : (dB S3_27 0 S3_36 = true) ∧ (dB S3_27 1 S3_36 = true) ∧ (dB S3_27 2 S3_37 = true) ∧ (undB S3_28 5 = true) := ⟨by kernel_rfl, by kernel_rfl, by kernel_rfl, by kernel_rfl⟩
theorem d3_27_0 : dB S3_27 0 S3_36 = true := Y10_g10.1
theorem d3_27_1 : dB S3_27 1 S3_36 = true := Y10_g10.2.1
theorem d3_27_2 : dB S3_27 2 S3_37 = true := Y10_g10.2.2.1
theorem u3_28 : undB S3_28 5 = true := Y10_g10.2.2.2

end Go.Proofs.YtaceajadklmddaaGreat
