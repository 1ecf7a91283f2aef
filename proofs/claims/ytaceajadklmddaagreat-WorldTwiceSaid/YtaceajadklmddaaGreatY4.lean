/- The law WorldTwice: what happens (4). -/
import Derived.Test.YtaceajadklmddaaGreatXn0
namespace Go.Proofs.YtaceajadklmddaaGreat
open Go Go.Cx Go.RowKit

set_option maxRecDepth 1000000 in
theorem Y4_g0 : (eq2 9 S2_3 (numV 0) (numV 0) (.bool true) S2_4 = true) ∧ (eq2 9 S2_4 (numV 0) (numV 0) (.bool true) S2_5 = true) ∧ (undB S2_0 1 = true) ∧ (dB S2_0 0 S2_6 = true) ∧ (undB S2_1 2 = true) ∧ (dB S2_1 0 S2_7 = true) ∧ (dB S2_1 1 S2_7 = true) ∧ (undB S2_2 3 = true) := ⟨by kernel_rfl, by kernel_rfl, by kernel_rfl, by kernel_rfl, by kernel_rfl, by kernel_rfl, by kernel_rfl, by kernel_rfl⟩
theorem se2_4 : eq2 9 S2_3 (numV 0) (numV 0) (.bool true) S2_4 = true := Y4_g0.1
theorem se2_5 : eq2 9 S2_4 (numV 0) (numV 0) (.bool true) S2_5 = true := Y4_g0.2.1
theorem u2_0 : undB S2_0 1 = true := Y4_g0.2.2.1
theorem d2_0_0 : dB S2_0 0 S2_6 = true := Y4_g0.2.2.2.1
theorem u2_1 : undB S2_1 2 = true := Y4_g0.2.2.2.2.1
theorem d2_1_0 : dB S2_1 0 S2_7 = true := Y4_g0.2.2.2.2.2.1
theorem d2_1_1 : dB S2_1 1 S2_7 = true := Y4_g0.2.2.2.2.2.2.1
theorem u2_2 : undB S2_2 3 = true := Y4_g0.2.2.2.2.2.2.2
set_option maxRecDepth 1000000 in
theorem Y4_g1 : (dB S2_2 0 S2_8 = true) ∧ (dB S2_2 1 S2_8 = true) ∧ (dB S2_2 2 S2_8 = true) ∧ (undB S2_3 4 = true) ∧ (dB S2_3 0 S2_9 = true) := ⟨by kernel_rfl, by kernel_rfl, by kernel_rfl, by kernel_rfl, by kernel_rfl⟩
theorem d2_2_0 : dB S2_2 0 S2_8 = true := Y4_g1.1
theorem d2_2_1 : dB S2_2 1 S2_8 = true := Y4_g1.2.1
theorem d2_2_2 : dB S2_2 2 S2_8 = true := Y4_g1.2.2.1
theorem u2_3 : undB S2_3 4 = true := Y4_g1.2.2.2.1
theorem d2_3_0 : dB S2_3 0 S2_9 = true := Y4_g1.2.2.2.2
set_option maxRecDepth 1000000 in
theorem Y4_g2 : (dB S2_3 1 S2_9 = true) ∧ (dB S2_3 2 S2_9 = true) ∧ (dB S2_3 3 S2_9 = true) ∧ (undB S2_4 5 = true) ∧ (dB S2_4 0 S2_10 = true) := ⟨by kernel_rfl, by kernel_rfl, by kernel_rfl, by kernel_rfl, by kernel_rfl⟩
theorem d2_3_1 : dB S2_3 1 S2_9 = true := Y4_g2.1
theorem d2_3_2 : dB S2_3 2 S2_9 = true := Y4_g2.2.1
theorem d2_3_3 : dB S2_3 3 S2_9 = true := Y4_g2.2.2.1
theorem u2_4 : undB S2_4 5 = true := Y4_g2.2.2.2.1
theorem d2_4_0 : dB S2_4 0 S2_10 = true := Y4_g2.2.2.2.2
set_option maxRecDepth 1000000 in
theorem Y4_g3 : (dB S2_4 1 S2_10 = true) ∧ (dB S2_4 2 S2_10 = true) ∧ (dB S2_4 3 S2_10 = true) ∧ (dB S2_4 4 S2_10 = true) ∧ (undB S2_5 6 = true) := ⟨by kernel_rfl, by kernel_rfl, by kernel_rfl, by kernel_rfl, by kernel_rfl⟩
theorem d2_4_1 : dB S2_4 1 S2_10 = true := Y4_g3.1
theorem d2_4_2 : dB S2_4 2 S2_10 = true := Y4_g3.2.1
theorem d2_4_3 : dB S2_4 3 S2_10 = true := Y4_g3.2.2.1
theorem d2_4_4 : dB S2_4 4 S2_10 = true := Y4_g3.2.2.2.1
theorem u2_5 : undB S2_5 6 = true := Y4_g3.2.2.2.2
set_option maxRecDepth 1000000 in
theorem Y4_g4 : (dB S2_5 0 S2_11 = true) ∧ (dB S2_5 1 S2_11 = true) ∧ (dB S2_5 2 S2_11 = true) ∧ (dB S2_5 3 S2_11 = true) := ⟨by kernel_rfl, by kernel_rfl, by kernel_rfl, by kernel_rfl⟩
theorem d2_5_0 : dB S2_5 0 S2_11 = true := Y4_g4.1
theorem d2_5_1 : dB S2_5 1 S2_11 = true := Y4_g4.2.1
theorem d2_5_2 : dB S2_5 2 S2_11 = true := Y4_g4.2.2.1
theorem d2_5_3 : dB S2_5 3 S2_11 = true := Y4_g4.2.2.2
set_option maxRecDepth 1000000 in
theorem Y4_g5 : (dB S2_5 4 S2_11 = true) ∧ (dB S2_5 5 S2_11 = true) ∧ (undB S2_6 1 = true) ∧ (dB S2_6 0 S2_12 = true) ∧ (undB S2_7 2 = true) ∧ (dB S2_7 0 S2_13 = true) ∧ (dB S2_7 1 S2_14 = true) ∧ (undB S2_8 3 = true) := ⟨by kernel_rfl, by kernel_rfl, by kernel_rfl, by kernel_rfl, by kernel_rfl, by kernel_rfl, by kernel_rfl, by kernel_rfl⟩
theorem d2_5_4 : dB S2_5 4 S2_11 = true := Y4_g5.1
theorem d2_5_5 : dB S2_5 5 S2_11 = true := Y4_g5.2.1
theorem u2_6 : undB S2_6 1 = true := Y4_g5.2.2.1
theorem d2_6_0 : dB S2_6 0 S2_12 = true := Y4_g5.2.2.2.1
theorem u2_7 : undB S2_7 2 = true := Y4_g5.2.2.2.2.1
theorem d2_7_0 : dB S2_7 0 S2_13 = true := Y4_g5.2.2.2.2.2.1
theorem d2_7_1 : dB S2_7 1 S2_14 = true := Y4_g5.2.2.2.2.2.2.1
theorem u2_8 : undB S2_8 3 = true := Y4_g5.2.2.2.2.2.2.2
set_option maxRecDepth 1000000 in
theorem Y4_g6 : (dB S2_8 0 S2_15 = true) ∧ (dB S2_8 1 S2_15 = true) ∧ (dB S2_8 2 S2_16 = true) ∧ (undB S2_9 4 = true) ∧ (dB S2_9 0 S2_17 = true) := ⟨by kernel_rfl, by kernel_rfl, by kernel_rfl, by kernel_rfl, by kernel_rfl⟩
theorem d2_8_0 : dB S2_8 0 S2_15 = true := Y4_g6.1
theorem d2_8_1 : dB S2_8 1 S2_15 = true := Y4_g6.2.1
theorem d2_8_2 : dB S2_8 2 S2_16 = true := Y4_g6.2.2.1
theorem u2_9 : undB S2_9 4 = true := Y4_g6.2.2.2.1
theorem d2_9_0 : dB S2_9 0 S2_17 = true := Y4_g6.2.2.2.2
set_option maxRecDepth 1000000 in
theorem Y4_g7 : (dB S2_9 1 S2_17 = true) ∧ (dB S2_9 2 S2_17 = true) ∧ (dB S2_9 3 S2_18 = true) ∧ (undB S2_10 5 = true) ∧ (dB S2_10 0 S2_19 = true) := ⟨by kernel_rfl, by kernel_rfl, by kernel_rfl, by kernel_rfl, by kernel_rfl⟩
theorem d2_9_1 : dB S2_9 1 S2_17 = true := Y4_g7.1
theorem d2_9_2 : dB S2_9 2 S2_17 = true := Y4_g7.2.1
theorem d2_9_3 : dB S2_9 3 S2_18 = true := Y4_g7.2.2.1
theorem u2_10 : undB S2_10 5 = true := Y4_g7.2.2.2.1
theorem d2_10_0 : dB S2_10 0 S2_19 = true := Y4_g7.2.2.2.2
set_option maxRecDepth 1000000 in
theorem Y4_g8 : (dB S2_10 1 S2_19 = true) ∧ (dB S2_10 2 S2_19 = true) ∧ (dB S2_10 3 S2_19 = true) ∧ (dB S2_10 4 S2_20 = true) ∧ (undB S2_11 6 = true) := ⟨by kernel_rfl, by kernel_rfl, by kernel_rfl, by kernel_rfl, by kernel_rfl⟩
theorem d2_10_1 : dB S2_10 1 S2_19 = true := Y4_g8.1
theorem d2_10_2 : dB S2_10 2 S2_19 = true := Y4_g8.2.1
theorem d2_10_3 : dB S2_10 3 S2_19 = true := Y4_g8.2.2.1
theorem d2_10_4 : dB S2_10 4 S2_20 = true := Y4_g8.2.2.2.1
theorem u2_11 : undB S2_11 6 = true := Y4_g8.2.2.2.2
set_option maxRecDepth 1000000 in
theorem Y4_g9 : (dB S2_11 0 S2_21 = true) ∧ (dB S2_11 1 S2_21 = true) ∧ (dB S2_11 2 S2_21 = true) ∧ (dB S2_11 3 S2_21 = true) := ⟨by kernel_rfl, by kernel_rfl, by kernel_rfl, by kernel_rfl⟩
theorem d2_11_0 : dB S2_11 0 S2_21 = true := Y4_g9.1
theorem d2_11_1 : dB S2_11 1 S2_21 = true := Y4_g9.2.1
theorem d2_11_2 : dB S2_11 2 S2_21 = true := Y4_g9.2.2.1
theorem d2_11_3 : dB S2_11 3 S2_21 = true := Y4_g9.2.2.2
set_option maxRecDepth 1000000 in
theorem Y4_g10 : (dB S2_11 4 S2_21 = true) ∧ (dB S2_11 5 S2_22 = true) ∧ (undB S2_12 0 = true) ∧ (undB S2_13 2 = true) ∧ (dB S2_13 0 S2_23 = true) ∧ (dB S2_13 1 S2_23 = true) ∧ (undB S2_14 1 = true) := ⟨by kernel_rfl, by kernel_rfl, by kernel_rfl, by kernel_rfl, by kernel_rfl, by kernel_rfl, by kernel_rfl⟩
theorem d2_11_4 : dB S2_11 4 S2_21 = true := Y4_g10.1
theorem d2_11_5 : dB S2_11 5 S2_22 = true := Y4_g10.2.1
theorem u2_12 : undB S2_12 0 = true := Y4_g10.2.2.1
theorem u2_13 : undB S2_13 2 = true := Y4_g10.2.2.2.1
theorem d2_13_0 : dB S2_13 0 S2_23 = true := Y4_g10.2.2.2.2.1
theorem d2_13_1 : dB S2_13 1 S2_23 = true := Y4_g10.2.2.2.2.2.1
theorem u2_14 : undB S2_14 1 = true := Y4_g10.2.2.2.2.2.2

end Go.Proofs.YtaceajadklmddaaGreat
