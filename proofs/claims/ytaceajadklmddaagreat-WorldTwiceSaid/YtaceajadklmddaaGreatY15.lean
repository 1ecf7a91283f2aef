/- The law WorldTwice: what happens (15). -/
import Derived.Test.YtaceajadklmddaaGreatXn0
namespace Go.Proofs.YtaceajadklmddaaGreat
open Go Go.Cx Go.RowKit

set_option maxRecDepth 1000000 in
theorem Y15_g0 : (dB S4_8 2 S4_16 = true) ∧ (undB S4_9 4 = true) ∧ (dB S4_9 0 S4_17 = true) ∧ (dB S4_9 1 S4_17 = true) := ⟨by kernel_rfl, by kernel_rfl, by kernel_rfl, by kernel_rfl⟩
theorem d4_8_2 : dB S4_8 2 S4_16 = true := Y15_g0.1
theorem u4_9 : undB S4_9 4 = true := Y15_g0.2.1
theorem d4_9_0 : dB S4_9 0 S4_17 = true := Y15_g0.2.2.1
theorem d4_9_1 : dB S4_9 1 S4_17 = true := Y15_g0.2.2.2
set_option maxRecDepth 1000000 in
theorem Y15_g1 : (dB S4_9 2 S4_17 = true) ∧ (dB S4_9 3 S4_18 = true) ∧ (undB S4_10 5 = true) ∧ (dB S4_10 0 S4_19 = true) := ⟨by kernel_rfl, by kernel_rfl, by kernel_rfl, by kernel_rfl⟩
theorem d4_9_2 : dB S4_9 2 S4_17 = true := Y15_g1.1
theorem d4_9_3 : dB S4_9 3 S4_18 = true := Y15_g1.2.1
theorem u4_10 : undB S4_10 5 = true := Y15_g1.2.2.1
theorem d4_10_0 : dB S4_10 0 S4_19 = true := Y15_g1.2.2.2
set_option maxRecDepth 1000000 in
theorem Y15_g2 : (dB S4_10 1 S4_19 = true) ∧ (dB S4_10 2 S4_19 = true) := ⟨by kernel_rfl, by kernel_rfl⟩
theorem d4_10_1 : dB S4_10 1 S4_19 = true := Y15_g2.1
theorem d4_10_2 : dB S4_10 2 S4_19 = true := Y15_g2.2
set_option maxRecDepth 1000000 in
theorem Y15_g3 : (dB S4_10 3 S4_19 = true) ∧ (dB S4_10 4 S4_20 = true) ∧ (undB S4_11 6 = true) ∧ (dB S4_11 0 S4_21 = true) := ⟨by kernel_rfl, by kernel_rfl, by kernel_rfl, by kernel_rfl⟩
theorem d4_10_3 : dB S4_10 3 S4_19 = true := Y15_g3.1
theorem d4_10_4 : dB S4_10 4 S4_20 = true := Y15_g3.2.1
theorem u4_11 : undB S4_11 6 = true := Y15_g3.2.2.1
theorem d4_11_0 : dB S4_11 0 S4_21 = true := Y15_g3.2.2.2
set_option maxRecDepth 1000000 in
theorem Y15_g4 : (dB S4_11 1 S4_21 = true) ∧ (dB S4_11 2 S4_21 = true) := ⟨by kernel_rfl, by kernel_rfl⟩
theorem d4_11_1 : dB S4_11 1 S4_21 = true := Y15_g4.1
theorem d4_11_2 : dB S4_11 2 S4_21 = true := Y15_g4.2
set_option maxRecDepth 1000000 in
theorem Y15_g5 : (dB S4_11 3 S4_21 = true) ∧ (dB S4_11 4 S4_21 = true) ∧ (dB S4_11 5 S4_22 = true) ∧ (undB S4_12 0 = true) ∧ (undB S4_13 2 = true) ∧ (dB S4_13 0 S4_23 = true) := ⟨by kernel_rfl, by kernel_rfl, by kernel_rfl, by kernel_rfl, by kernel_rfl, by kernel_rfl⟩
theorem d4_11_3 : dB S4_11 3 S4_21 = true := Y15_g5.1
theorem d4_11_4 : dB S4_11 4 S4_21 = true := Y15_g5.2.1
theorem d4_11_5 : dB S4_11 5 S4_22 = true := Y15_g5.2.2.1
theorem u4_12 : undB S4_12 0 = true := Y15_g5.2.2.2.1
theorem u4_13 : undB S4_13 2 = true := Y15_g5.2.2.2.2.1
theorem d4_13_0 : dB S4_13 0 S4_23 = true := Y15_g5.2.2.2.2.2
set_option maxRecDepth 1000000 in
theorem Y15_g6 : (dB S4_13 1 S4_23 = true) ∧ (undB S4_14 1 = true) ∧ (dB S4_14 0 S4_23 = true) ∧ (undB S4_15 3 = true) ∧ (dB S4_15 0 S4_24 = true) ∧ (dB S4_15 1 S4_25 = true) := ⟨by kernel_rfl, by kernel_rfl, by kernel_rfl, by kernel_rfl, by kernel_rfl, by kernel_rfl⟩
theorem d4_13_1 : dB S4_13 1 S4_23 = true := Y15_g6.1
theorem u4_14 : undB S4_14 1 = true := Y15_g6.2.1
theorem d4_14_0 : dB S4_14 0 S4_23 = true := Y15_g6.2.2.1
theorem u4_15 : undB S4_15 3 = true := Y15_g6.2.2.2.1
theorem d4_15_0 : dB S4_15 0 S4_24 = true := Y15_g6.2.2.2.2.1
theorem d4_15_1 : dB S4_15 1 S4_25 = true := Y15_g6.2.2.2.2.2
set_option maxRecDepth 1000000 in
theorem Y15_g7 : (dB S4_15 2 S4_25 = true) ∧ (undB S4_16 2 = true) ∧ (dB S4_16 0 S4_25 = true) ∧ (dB S4_16 1 S4_25 = true) ∧ (undB S4_17 4 = true) := ⟨by kernel_rfl, by kernel_rfl, by kernel_rfl, by kernel_rfl, by kernel_rfl⟩
theorem d4_15_2 : dB S4_15 2 S4_25 = true := Y15_g7.1
theorem u4_16 : undB S4_16 2 = true := Y15_g7.2.1
theorem d4_16_0 : dB S4_16 0 S4_25 = true := Y15_g7.2.2.1
theorem d4_16_1 : dB S4_16 1 S4_25 = true := Y15_g7.2.2.2.1
theorem u4_17 : undB S4_17 4 = true := Y15_g7.2.2.2.2
set_option maxRecDepth 1000000 in
theorem Y15_g8 : (dB S4_17 0 S4_26 = true) ∧ (dB S4_17 1 S4_26 = true) ∧ (dB S4_17 2 S4_27 = true) ∧ (dB S4_17 3 S4_27 = true) ∧ (undB S4_18 3 = true) := ⟨by kernel_rfl, by kernel_rfl, by kernel_rfl, by kernel_rfl, by kernel_rfl⟩
theorem d4_17_0 : dB S4_17 0 S4_26 = true := Y15_g8.1
theorem d4_17_1 : dB S4_17 1 S4_26 = true := Y15_g8.2.1
theorem d4_17_2 : dB S4_17 2 S4_27 = true := Y15_g8.2.2.1
theorem d4_17_3 : dB S4_17 3 S4_27 = true := Y15_g8.2.2.2.1
theorem u4_18 : undB S4_18 3 = true := Y15_g8.2.2.2.2
set_option maxRecDepth 1000000 in
theorem Y15_g9 : (dB S4_18 0 S4_27 = true) ∧ (dB S4_18 1 S4_27 = true) := ⟨by kernel_rfl, by kernel_rfl⟩
theorem d4_18_0 : dB S4_18 0 S4_27 = true := Y15_g9.1
theorem d4_18_1 : dB S4_18 1 S4_27 = true := Y15_g9.2
set_option maxRecDepth 1000000 in
theorem Y15_g10 : (dB S4_18 2 S4_27 = true) ∧ (undB S4_19 5 = true) ∧ (dB S4_19 0 S4_28 = true) := ⟨by kernel_rfl, by kernel_rfl, by kernel_rfl⟩
theorem d4_18_2 : dB S4_18 2 S4_27 = true := Y15_g10.1
theorem u4_19 : undB S4_19 5 = true := Y15_g10.2.1
theorem d4_19_0 : dB S4_19 0 S4_28 = true := Y15_g10.2.2

end Go.Proofs.YtaceajadklmddaaGreat
