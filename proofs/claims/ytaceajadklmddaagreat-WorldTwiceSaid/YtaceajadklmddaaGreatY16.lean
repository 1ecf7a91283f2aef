/- The law WorldTwice: what happens (16). -/
import Derived.Test.YtaceajadklmddaaGreatXn0
namespace Go.Proofs.YtaceajadklmddaaGreat
open Go Go.Cx Go.RowKit

set_option maxRecDepth 1000000 in
theorem Y16_g0 : (dB S4_19 1 S4_28 = true) ∧ (dB S4_19 2 S4_28 = true) ∧ (dB S4_19 3 S4_29 = true) ∧ (dB S4_19 4 S4_29 = true) ∧ (undB S4_20 4 = true) := ⟨by kernel_rfl, by kernel_rfl, by kernel_rfl, by kernel_rfl, by kernel_rfl⟩
theorem d4_19_1 : dB S4_19 1 S4_28 = true := Y16_g0.1
theorem d4_19_2 : dB S4_19 2 S4_28 = true := Y16_g0.2.1
theorem d4_19_3 : dB S4_19 3 S4_29 = true := Y16_g0.2.2.1
theorem d4_19_4 : dB S4_19 4 S4_29 = true := Y16_g0.2.2.2.1
theorem u4_20 : undB S4_20 4 = true := Y16_g0.2.2.2.2
set_option maxRecDepth 1000000 in
theorem Y16_g1 : (dB S4_20 0 S4_29 = true) ∧ (dB S4_20 1 S4_29 = true) := ⟨by kernel_rfl, by kernel_rfl⟩
theorem d4_20_0 : dB S4_20 0 S4_29 = true := Y16_g1.1
theorem d4_20_1 : dB S4_20 1 S4_29 = true := Y16_g1.2
set_option maxRecDepth 1000000 in
theorem Y16_g2 : (dB S4_20 2 S4_29 = true) ∧ (dB S4_20 3 S4_29 = true) ∧ (undB S4_21 6 = true) := ⟨by kernel_rfl, by kernel_rfl, by kernel_rfl⟩
theorem d4_20_2 : dB S4_20 2 S4_29 = true := Y16_g2.1
theorem d4_20_3 : dB S4_20 3 S4_29 = true := Y16_g2.2.1
theorem u4_21 : undB S4_21 6 = true := Y16_g2.2.2
set_option maxRecDepth 1000000 in
theorem Y16_g3 : (dB S4_21 0 S4_30 = true) ∧ (dB S4_21 1 S4_30 = true) ∧ (dB S4_21 2 S4_30 = true) := ⟨by kernel_rfl, by kernel_rfl, by kernel_rfl⟩
theorem d4_21_0 : dB S4_21 0 S4_30 = true := Y16_g3.1
theorem d4_21_1 : dB S4_21 1 S4_30 = true := Y16_g3.2.1
theorem d4_21_2 : dB S4_21 2 S4_30 = true := Y16_g3.2.2
set_option maxRecDepth 1000000 in
theorem Y16_g4 : (dB S4_21 3 S4_30 = true) ∧ (dB S4_21 4 S4_31 = true) ∧ (dB S4_21 5 S4_31 = true) ∧ (undB S4_22 5 = true) ∧ (dB S4_22 0 S4_31 = true) := ⟨by kernel_rfl, by kernel_rfl, by kernel_rfl, by kernel_rfl, by kernel_rfl⟩
theorem d4_21_3 : dB S4_21 3 S4_30 = true := Y16_g4.1
theorem d4_21_4 : dB S4_21 4 S4_31 = true := Y16_g4.2.1
theorem d4_21_5 : dB S4_21 5 S4_31 = true := Y16_g4.2.2.1
theorem u4_22 : undB S4_22 5 = true := Y16_g4.2.2.2.1
theorem d4_22_0 : dB S4_22 0 S4_31 = true := Y16_g4.2.2.2.2
set_option maxRecDepth 1000000 in
theorem Y16_g5 : (dB S4_22 1 S4_31 = true) ∧ (dB S4_22 2 S4_31 = true) := ⟨by kernel_rfl, by kernel_rfl⟩
theorem d4_22_1 : dB S4_22 1 S4_31 = true := Y16_g5.1
theorem d4_22_2 : dB S4_22 2 S4_31 = true := Y16_g5.2
set_option maxRecDepth 1000000 in
theorem Y16_g6 : (dB S4_22 3 S4_31 = true) ∧ (dB S4_22 4 S4_31 = true) ∧ (undB S4_23 1 = true) ∧ (dB S4_23 0 S4_32 = true) ∧ (undB S4_24 3 = true) ∧ (dB S4_24 0 S4_33 = true) := ⟨by kernel_rfl, by kernel_rfl, by kernel_rfl, by kernel_rfl, by kernel_rfl, by kernel_rfl⟩
theorem d4_22_3 : dB S4_22 3 S4_31 = true := Y16_g6.1
theorem d4_22_4 : dB S4_22 4 S4_31 = true := Y16_g6.2.1
theorem u4_23 : undB S4_23 1 = true := Y16_g6.2.2.1
theorem d4_23_0 : dB S4_23 0 S4_32 = true := Y16_g6.2.2.2.1
theorem u4_24 : undB S4_24 3 = true := Y16_g6.2.2.2.2.1
theorem d4_24_0 : dB S4_24 0 S4_33 = true := Y16_g6.2.2.2.2.2
set_option maxRecDepth 1000000 in
theorem Y16_g7 : (dB S4_24 1 S4_33 = true) ∧ (dB S4_24 2 S4_33 = true) ∧ (undB S4_25 2 = true) ∧ (dB S4_25 0 S4_33 = true) ∧ (dB S4_25 1 S4_34 = true) ∧ (undB S4_26 4 = true) ∧ (dB S4_26 0 S4_35 = true) := ⟨by kernel_rfl, by kernel_rfl, by kernel_rfl, by kernel_rfl, by kernel_rfl, by kernel_rfl, by kernel_rfl⟩
theorem d4_24_1 : dB S4_24 1 S4_33 = true := Y16_g7.1
theorem d4_24_2 : dB S4_24 2 S4_33 = true := Y16_g7.2.1
theorem u4_25 : undB S4_25 2 = true := Y16_g7.2.2.1
theorem d4_25_0 : dB S4_25 0 S4_33 = true := Y16_g7.2.2.2.1
theorem d4_25_1 : dB S4_25 1 S4_34 = true := Y16_g7.2.2.2.2.1
theorem u4_26 : undB S4_26 4 = true := Y16_g7.2.2.2.2.2.1
theorem d4_26_0 : dB S4_26 0 S4_35 = true := Y16_g7.2.2.2.2.2.2
set_option maxRecDepth 1000000 in
theorem Y16_g8 : (dB S4_26 1 S4_36 = true) ∧ (dB S4_26 2 S4_36 = true) ∧ (dB S4_26 3 S4_36 = true) ∧ (undB S4_27 3 = true) ∧ (dB S4_27 0 S4_36 = true) ∧ (dB S4_27 1 S4_36 = true) := ⟨by kernel_rfl, by kernel_rfl, by kernel_rfl, by kernel_rfl, by kernel_rfl, by kernel_rfl⟩
theorem d4_26_1 : dB S4_26 1 S4_36 = true := Y16_g8.1
theorem d4_26_2 : dB S4_26 2 S4_36 = true := Y16_g8.2.1
theorem d4_26_3 : dB S4_26 3 S4_36 = true := Y16_g8.2.2.1
theorem u4_27 : undB S4_27 3 = true := Y16_g8.2.2.2.1
theorem d4_27_0 : dB S4_27 0 S4_36 = true := Y16_g8.2.2.2.2.1
theorem d4_27_1 : dB S4_27 1 S4_36 = true := Y16_g8.2.2.2.2.2
set_option maxRecDepth 1000000 in
theorem Y16_g9 : (dB S4_27 2 S4_37 = true) ∧ (undB S4_28 5 = true) ∧ (dB S4_28 0 S4_38 = true) ∧ (dB S4_28 1 S4_38 = true) ∧ (dB S4_28 2 S4_39 = true) ∧ (dB S4_28 3 S4_39 = true) := ⟨by kernel_rfl, by kernel_rfl, by kernel_rfl, by kernel_rfl, by kernel_rfl, by kernel_rfl⟩
theorem d4_27_2 : dB S4_27 2 S4_37 = true := Y16_g9.1
theorem u4_28 : undB S4_28 5 = true := Y16_g9.2.1
theorem d4_28_0 : dB S4_28 0 S4_38 = true := Y16_g9.2.2.1
theorem d4_28_1 : dB S4_28 1 S4_38 = true := Y16_g9.2.2.2.1
theorem d4_28_2 : dB S4_28 2 S4_39 = true := Y16_g9.2.2.2.2.1
theorem d4_28_3 : dB S4_28 3 S4_39 = true := Y16_g9.2.2.2.2.2
set_option maxRecDepth 1000000 in
theorem Y16_g10 : (dB S4_28 4 S4_39 = true) ∧ (undB S4_29 4 = true) := ⟨by kernel_rfl, by kernel_rfl⟩
theorem d4_28_4 : dB S4_28 4 S4_39 = true := Y16_g10.1
theorem u4_29 : undB S4_29 4 = true := Y16_g10.2

end Go.Proofs.YtaceajadklmddaaGreat
