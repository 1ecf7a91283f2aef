/- The law WorldTwice: what happens (5). -/
import Derived.Test.YtaceajadklmddaaGreatXn0
namespace Go.Proofs.YtaceajadklmddaaGreat
open Go Go.Cx Go.RowKit

set_option maxRecDepth 1000000 in
theorem Y5_g0 : (dB S2_14 0 S2_23 = true) ∧ (undB S2_15 3 = true) ∧ (dB S2_15 0 S2_24 = true) ∧ (dB S2_15 1 S2_25 = true) ∧ (dB S2_15 2 S2_25 = true) ∧ (undB S2_16 2 = true) ∧ (dB S2_16 0 S2_25 = true) := ⟨by kernel_rfl, by kernel_rfl, by kernel_rfl, by kernel_rfl, by kernel_rfl, by kernel_rfl, by kernel_rfl⟩
theorem d2_14_0 : dB S2_14 0 S2_23 = true := Y5_g0.1
theorem u2_15 : undB S2_15 3 = true := Y5_g0.2.1
theorem d2_15_0 : dB S2_15 0 S2_24 = true := Y5_g0.2.2.1
theorem d2_15_1 : dB S2_15 1 S2_25 = true := Y5_g0.2.2.2.1
theorem d2_15_2 : dB S2_15 2 S2_25 = true := Y5_g0.2.2.2.2.1
theorem u2_16 : undB S2_16 2 = true := Y5_g0.2.2.2.2.2.1
theorem d2_16_0 : dB S2_16 0 S2_25 = true := Y5_g0.2.2.2.2.2.2
set_option maxRecDepth 1000000 in
theorem Y5_g1 : (dB S2_16 1 S2_25 = true) ∧ (undB S2_17 4 = true) ∧ (dB S2_17 0 S2_26 = true) ∧ (dB S2_17 1 S2_26 = true) ∧ (dB S2_17 2 S2_27 = true) ∧ (dB S2_17 3 S2_27 = true) ∧ (undB S2_18 3 = true) := ⟨by kernel_rfl, by kernel_rfl, by kernel_rfl, by kernel_rfl, by kernel_rfl, by kernel_rfl, by kernel_rfl⟩
theorem d2_16_1 : dB S2_16 1 S2_25 = true := Y5_g1.1
theorem u2_17 : undB S2_17 4 = true := Y5_g1.2.1
theorem d2_17_0 : dB S2_17 0 S2_26 = true := Y5_g1.2.2.1
theorem d2_17_1 : dB S2_17 1 S2_26 = true := Y5_g1.2.2.2.1
theorem d2_17_2 : dB S2_17 2 S2_27 = true := Y5_g1.2.2.2.2.1
theorem d2_17_3 : dB S2_17 3 S2_27 = true := Y5_g1.2.2.2.2.2.1
theorem u2_18 : undB S2_18 3 = true := Y5_g1.2.2.2.2.2.2
set_option maxRecDepth 1000000 in
theorem Y5_g2 : (dB S2_18 0 S2_27 = true) ∧ (dB S2_18 1 S2_27 = true) ∧ (dB S2_18 2 S2_27 = true) ∧ (undB S2_19 5 = true) ∧ (dB S2_19 0 S2_28 = true) := ⟨by kernel_rfl, by kernel_rfl, by kernel_rfl, by kernel_rfl, by kernel_rfl⟩
theorem d2_18_0 : dB S2_18 0 S2_27 = true := Y5_g2.1
theorem d2_18_1 : dB S2_18 1 S2_27 = true := Y5_g2.2.1
theorem d2_18_2 : dB S2_18 2 S2_27 = true := Y5_g2.2.2.1
theorem u2_19 : undB S2_19 5 = true := Y5_g2.2.2.2.1
theorem d2_19_0 : dB S2_19 0 S2_28 = true := Y5_g2.2.2.2.2
set_option maxRecDepth 1000000 in
theorem Y5_g3 : (dB S2_19 1 S2_28 = true) ∧ (dB S2_19 2 S2_28 = true) ∧ (dB S2_19 3 S2_29 = true) ∧ (dB S2_19 4 S2_29 = true) ∧ (undB S2_20 4 = true) ∧ (dB S2_20 0 S2_29 = true) := ⟨by kernel_rfl, by kernel_rfl, by kernel_rfl, by kernel_rfl, by kernel_rfl, by kernel_rfl⟩
theorem d2_19_1 : dB S2_19 1 S2_28 = true := Y5_g3.1
theorem d2_19_2 : dB S2_19 2 S2_28 = true := Y5_g3.2.1
theorem d2_19_3 : dB S2_19 3 S2_29 = true := Y5_g3.2.2.1
theorem d2_19_4 : dB S2_19 4 S2_29 = true := Y5_g3.2.2.2.1
theorem u2_20 : undB S2_20 4 = true := Y5_g3.2.2.2.2.1
theorem d2_20_0 : dB S2_20 0 S2_29 = true := Y5_g3.2.2.2.2.2
set_option maxRecDepth 1000000 in
theorem Y5_g4 : (dB S2_20 1 S2_29 = true) ∧ (dB S2_20 2 S2_29 = true) ∧ (dB S2_20 3 S2_29 = true) ∧ (undB S2_21 6 = true) ∧ (dB S2_21 0 S2_30 = true) := ⟨by kernel_rfl, by kernel_rfl, by kernel_rfl, by kernel_rfl, by kernel_rfl⟩
theorem d2_20_1 : dB S2_20 1 S2_29 = true := Y5_g4.1
theorem d2_20_2 : dB S2_20 2 S2_29 = true := Y5_g4.2.1
theorem d2_20_3 : dB S2_20 3 S2_29 = true := Y5_g4.2.2.1
theorem u2_21 : undB S2_21 6 = true := Y5_g4.2.2.2.1
theorem d2_21_0 : dB S2_21 0 S2_30 = true := Y5_g4.2.2.2.2
set_option maxRecDepth 1000000 in
theorem Y5_g5 : (dB S2_21 1 S2_30 = true) ∧ (dB S2_21 2 S2_30 = true) ∧ (dB S2_21 3 S2_30 = true) ∧ (dB S2_21 4 S2_31 = true) ∧ (dB S2_21 5 S2_31 = true) ∧ (undB S2_22 5 = true) := ⟨by kernel_rfl, by kernel_rfl, by kernel_rfl, by kernel_rfl, by kernel_rfl, by kernel_rfl⟩
theorem d2_21_1 : dB S2_21 1 S2_30 = true := Y5_g5.1
theorem d2_21_2 : dB S2_21 2 S2_30 = true := Y5_g5.2.1
theorem d2_21_3 : dB S2_21 3 S2_30 = true := Y5_g5.2.2.1
theorem d2_21_4 : dB S2_21 4 S2_31 = true := Y5_g5.2.2.2.1
theorem d2_21_5 : dB S2_21 5 S2_31 = true := Y5_g5.2.2.2.2.1
theorem u2_22 : undB S2_22 5 = true := Y5_g5.2.2.2.2.2
set_option maxRecDepth 1000000 in
theorem Y5_g6 : (dB S2_22 0 S2_31 = true) ∧ (dB S2_22 1 S2_31 = true) ∧ (dB S2_22 2 S2_31 = true) ∧ (dB S2_22 3 S2_31 = true) := ⟨by kernel_rfl, by kernel_rfl, by kernel_rfl, by kernel_rfl⟩
theorem d2_22_0 : dB S2_22 0 S2_31 = true := Y5_g6.1
theorem d2_22_1 : dB S2_22 1 S2_31 = true := Y5_g6.2.1
theorem d2_22_2 : dB S2_22 2 S2_31 = true := Y5_g6.2.2.1
theorem d2_22_3 : dB S2_22 3 S2_31 = true := Y5_g6.2.2.2
set_option maxRecDepth 1000000 in
theorem Y5_g7 : (dB S2_22 4 S2_31 = true) ∧ (undB S2_23 1 = true) ∧ (dB S2_23 0 S2_32 = true) ∧ (undB S2_24 3 = true) ∧ (dB S2_24 0 S2_33 = true) ∧ (dB S2_24 1 S2_33 = true) ∧ (dB S2_24 2 S2_33 = true) ∧ (undB S2_25 2 = true) ∧ (dB S2_25 0 S2_33 = true) ∧ (dB S2_25 1 S2_34 = true) ∧ (undB S2_26 4 = true) := ⟨by kernel_rfl, by kernel_rfl, by kernel_rfl, by kernel_rfl, by kernel_rfl, by kernel_rfl, by kernel_rfl, by kernel_rfl, by kernel_rfl, by kernel_rfl, by kernel_rfl⟩
theorem d2_22_4 : dB S2_22 4 S2_31 = true := Y5_g7.1
theorem u2_23 : undB S2_23 1 = true := Y5_g7.2.1
theorem d2_23_0 : dB S2_23 0 S2_32 = true := Y5_g7.2.2.1
theorem u2_24 : undB S2_24 3 = true := Y5_g7.2.2.2.1
theorem d2_24_0 : dB S2_24 0 S2_33 = true := Y5_g7.2.2.2.2.1
theorem d2_24_1 : dB S2_24 1 S2_33 = true := Y5_g7.2.2.2.2.2.1
theorem d2_24_2 : dB S2_24 2 S2_33 = true := Y5_g7.2.2.2.2.2.2.1
theorem u2_25 : undB S2_25 2 = true := Y5_g7.2.2.2.2.2.2.2.1
theorem d2_25_0 : dB S2_25 0 S2_33 = true := Y5_g7.2.2.2.2.2.2.2.2.1
theorem d2_25_1 : dB S2_25 1 S2_34 = true := Y5_g7.2.2.2.2.2.2.2.2.2.1
theorem u2_26 : undB S2_26 4 = true := Y5_g7.2.2.2.2.2.2.2.2.2.2
set_option maxRecDepth 1000000 in
theorem Y5_g8 : (dB S2_26 0 S2_35 = true) ∧ (dB S2_26 1 S2_36 = true) ∧ (dB S2_26 2 S2_36 = true) ∧ (dB S2_26 3 S2_36 = true) ∧ (undB S2_27 3 = true) ∧ (dB S2_27 0 S2_36 = true) ∧ (dB S2_27 1 S2_36 = true) := ⟨by kernel_rfl, by kernel_rfl, by kernel_rfl, by kernel_rfl, by kernel_rfl, by kernel_rfl, by kernel_rfl⟩
theorem d2_26_0 : dB S2_26 0 S2_35 = true := Y5_g8.1
theorem d2_26_1 : dB S2_26 1 S2_36 = true := Y5_g8.2.1
theorem d2_26_2 : dB S2_26 2 S2_36 = true := Y5_g8.2.2.1
theorem d2_26_3 : dB S2_26 3 S2_36 = true := Y5_g8.2.2.2.1
theorem u2_27 : undB S2_27 3 = true := Y5_g8.2.2.2.2.1
theorem d2_27_0 : dB S2_27 0 S2_36 = true := Y5_g8.2.2.2.2.2.1
theorem d2_27_1 : dB S2_27 1 S2_36 = true := Y5_g8.2.2.2.2.2.2
set_option maxRecDepth 1000000 in
theorem Y5_g9 : (dB S2_27 2 S2_37 = true) ∧ (undB S2_28 5 = true) ∧ (dB S2_28 0 S2_38 = true) ∧ (dB S2_28 1 S2_38 = true) := ⟨by kernel_rfl, by kernel_rfl, by kernel_rfl, by kernel_rfl⟩
theorem d2_27_2 : dB S2_27 2 S2_37 = true := Y5_g9.1
theorem u2_28 : undB S2_28 5 = true := Y5_g9.2.1
theorem d2_28_0 : dB S2_28 0 S2_38 = true := Y5_g9.2.2.1
theorem d2_28_1 : dB S2_28 1 S2_38 = true := Y5_g9.2.2.2

end Go.Proofs.YtaceajadklmddaaGreat
