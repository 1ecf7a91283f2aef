/- The law WorldTwice: what happens (0). -/
import Derived.Test.YtaceajadklmddaaGreatXn0
namespace Go.Proofs.YtaceajadklmddaaGreat
open Go Go.Cx Go.RowKit

set_option maxRecDepth 1000000 in
theorem Y0_g0 : (eq1 7 R0 (numV 0) (pa 22) R0 = true) ∧ (eqM 8 R0 22 [opT] (numV 0) D1 = true) ∧ (eq1 7 D1 (numV 0) (pa 22) D1 = true) ∧ (eqM 8 D1 22 [opT] (numV 0) D2 = true) ∧ (eq1 7 D2 (numV 0) (pa 22) D2 = true) ∧ (eqM 8 D2 22 [opT] (numV 0) D3 = true) ∧ (eq1 7 D3 (numV 0) (pa 22) D3 = true) ∧ (eqM 8 D3 22 [opT] (numV 0) D4 = true) ∧ (eq2 9 D1 (numV 0) (numV 0) (.bool true) S1_0 = true) ∧ (eq2 9 S1_0 (numV 0) (numV 0) (.bool true) S1_1 = true) ∧ (eq2 9 S1_1 (numV 0) (numV 0) (.bool true) S1_2 = true) ∧ (eq2 9 S1_2 (numV 0) (numV 0) (.bool true) S1_3 = true) ∧ (eq2 9 S1_3 (numV 0) (numV 0) (.bool true) S1_4 = true) ∧ (eq2 9 S1_4 (numV 0) (numV 0) (.bool true) S1_5 = true) ∧ (undB S1_0 1 = true) ∧ (dB S1_0 0 S1_6 = true) := ⟨by kernel_rfl, by kernel_rfl, by kernel_rfl, by kernel_rfl, by kernel_rfl, by kernel_rfl, by kernel_rfl, by kernel_rfl, by kernel_rfl, by kernel_rfl, by kernel_rfl, by kernel_rfl, by kernel_rfl, by kernel_rfl, by kernel_rfl, by kernel_rfl⟩
theorem ed0 : eq1 7 R0 (numV 0) (pa 22) R0 = true := Y0_g0.1
theorem do0 : eqM 8 R0 22 [opT] (numV 0) D1 = true := Y0_g0.2.1
theorem ed1 : eq1 7 D1 (numV 0) (pa 22) D1 = true := Y0_g0.2.2.1
theorem do1 : eqM 8 D1 22 [opT] (numV 0) D2 = true := Y0_g0.2.2.2.1
theorem ed2 : eq1 7 D2 (numV 0) (pa 22) D2 = true := Y0_g0.2.2.2.2.1
theorem do2 : eqM 8 D2 22 [opT] (numV 0) D3 = true := Y0_g0.2.2.2.2.2.1
theorem ed3 : eq1 7 D3 (numV 0) (pa 22) D3 = true := Y0_g0.2.2.2.2.2.2.1
theorem do3 : eqM 8 D3 22 [opT] (numV 0) D4 = true := Y0_g0.2.2.2.2.2.2.2.1
theorem se1_0 : eq2 9 D1 (numV 0) (numV 0) (.bool true) S1_0 = true := Y0_g0.2.2.2.2.2.2.2.2.1
theorem se1_1 : eq2 9 S1_0 (numV 0) (numV 0) (.bool true) S1_1 = true := Y0_g0.2.2.2.2.2.2.2.2.2.1
theorem se1_2 : eq2 9 S1_1 (numV 0) (numV 0) (.bool true) S1_2 = true := Y0_g0.2.2.2.2.2.2.2.2.2.2.1
theorem se1_3 : eq2 9 S1_2 (numV 0) (numV 0) (.bool true) S1_3 = true := Y0_g0.2.2.2.2.2.2.2.2.2.2.2.1
theorem se1_4 : eq2 9 S1_3 (numV 0) (numV 0) (.bool true) S1_4 = true := Y0_g0.2.2.2.2.2.2.2.2.2.2.2.2.1
theorem se1_5 : eq2 9 S1_4 (numV 0) (numV 0) (.bool true) S1_5 = true := Y0_g0.2.2.2.2.2.2.2.2.2.2.2.2.2.1
theorem u1_0 : undB S1_0 1 = true := Y0_g0.2.2.2.2.2.2.2.2.2.2.2.2.2.2.1
theorem d1_0_0 : dB S1_0 0 S1_6 = true := Y0_g0.2.2.2.2.2.2.2.2.2.2.2.2.2.2.2
set_option maxRecDepth 1000000 in
theorem Y0_g1 : (undB S1_1 2 = true) ∧ (dB S1_1 0 S1_7 = true) ∧ (dB S1_1 1 S1_7 = true) ∧ (undB S1_2 3 = true) ∧ (dB S1_2 0 S1_8 = true) ∧ (dB S1_2 1 S1_8 = true) ∧ (dB S1_2 2 S1_8 = true) ∧ (undB S1_3 4 = true) := ⟨by kernel_rfl, by kernel_rfl, by kernel_rfl, by kernel_rfl, by kernel_rfl, by kernel_rfl, by kernel_rfl, by kernel_rfl⟩
theorem u1_1 : undB S1_1 2 = true := Y0_g1.1
theorem d1_1_0 : dB S1_1 0 S1_7 = true := Y0_g1.2.1
theorem d1_1_1 : dB S1_1 1 S1_7 = true := Y0_g1.2.2.1
theorem u1_2 : undB S1_2 3 = true := Y0_g1.2.2.2.1
theorem d1_2_0 : dB S1_2 0 S1_8 = true := Y0_g1.2.2.2.2.1
theorem d1_2_1 : dB S1_2 1 S1_8 = true := Y0_g1.2.2.2.2.2.1
theorem d1_2_2 : dB S1_2 2 S1_8 = true := Y0_g1.2.2.2.2.2.2.1
theorem u1_3 : undB S1_3 4 = true := Y0_g1.2.2.2.2.2.2.2
set_option maxRecDepth 1000000 in
theorem Y0_g2 : (dB S1_3 0 S1_9 = true) ∧ (dB S1_3 1 S1_9 = true) ∧ (dB S1_3 2 S1_9 = true) ∧ (dB S1_3 3 S1_9 = true) ∧ (undB S1_4 5 = true) ∧ (dB S1_4 0 S1_10 = true) := ⟨by kernel_rfl, by kernel_rfl, by kernel_rfl, by kernel_rfl, by kernel_rfl, by kernel_rfl⟩
theorem d1_3_0 : dB S1_3 0 S1_9 = true := Y0_g2.1
theorem d1_3_1 : dB S1_3 1 S1_9 = true := Y0_g2.2.1
theorem d1_3_2 : dB S1_3 2 S1_9 = true := Y0_g2.2.2.1
theorem d1_3_3 : dB S1_3 3 S1_9 = true := Y0_g2.2.2.2.1
theorem u1_4 : undB S1_4 5 = true := Y0_g2.2.2.2.2.1
theorem d1_4_0 : dB S1_4 0 S1_10 = true := Y0_g2.2.2.2.2.2
set_option maxRecDepth 1000000 in
theorem Y0_g3 : (dB S1_4 1 S1_10 = true) ∧ (dB S1_4 2 S1_10 = true) ∧ (dB S1_4 3 S1_10 = true) ∧ (dB S1_4 4 S1_10 = true) ∧ (undB S1_5 6 = true) ∧ (dB S1_5 0 S1_11 = true) := ⟨by kernel_rfl, by kernel_rfl, by kernel_rfl, by kernel_rfl, by kernel_rfl, by kernel_rfl⟩
theorem d1_4_1 : dB S1_4 1 S1_10 = true := Y0_g3.1
theorem d1_4_2 : dB S1_4 2 S1_10 = true := Y0_g3.2.1
theorem d1_4_3 : dB S1_4 3 S1_10 = true := Y0_g3.2.2.1
theorem d1_4_4 : dB S1_4 4 S1_10 = true := Y0_g3.2.2.2.1
theorem u1_5 : undB S1_5 6 = true := Y0_g3.2.2.2.2.1
theorem d1_5_0 : dB S1_5 0 S1_11 = true := Y0_g3.2.2.2.2.2
set_option maxRecDepth 1000000 in
theorem Y0_g4 : (dB S1_5 1 S1_11 = true) ∧ (dB S1_5 2 S1_11 = true) ∧ (dB S1_5 3 S1_11 = true) ∧ (dB S1_5 4 S1_11 = true) ∧ (dB S1_5 5 S1_11 = true) ∧ (undB S1_6 1 = true) ∧ (dB S1_6 0 S1_12 = true) ∧ (undB S1_7 2 = true) := ⟨by kernel_rfl, by kernel_rfl, by kernel_rfl, by kernel_rfl, by kernel_rfl, by kernel_rfl, by kernel_rfl, by kernel_rfl⟩
theorem d1_5_1 : dB S1_5 1 S1_11 = true := Y0_g4.1
theorem d1_5_2 : dB S1_5 2 S1_11 = true := Y0_g4.2.1
theorem d1_5_3 : dB S1_5 3 S1_11 = true := Y0_g4.2.2.1
theorem d1_5_4 : dB S1_5 4 S1_11 = true := Y0_g4.2.2.2.1
theorem d1_5_5 : dB S1_5 5 S1_11 = true := Y0_g4.2.2.2.2.1
theorem u1_6 : undB S1_6 1 = true := Y0_g4.2.2.2.2.2.1
theorem d1_6_0 : dB S1_6 0 S1_12 = true := Y0_g4.2.2.2.2.2.2.1
theorem u1_7 : undB S1_7 2 = true := Y0_g4.2.2.2.2.2.2.2
set_option maxRecDepth 1000000 in
theorem Y0_g5 : (dB S1_7 0 S1_13 = true) ∧ (dB S1_7 1 S1_14 = true) ∧ (undB S1_8 3 = true) ∧ (dB S1_8 0 S1_15 = true) ∧ (dB S1_8 1 S1_15 = true) ∧ (dB S1_8 2 S1_16 = true) ∧ (undB S1_9 4 = true) ∧ (dB S1_9 0 S1_17 = true) := ⟨by kernel_rfl, by kernel_rfl, by kernel_rfl, by kernel_rfl, by kernel_rfl, by kernel_rfl, by kernel_rfl, by kernel_rfl⟩
theorem d1_7_0 : dB S1_7 0 S1_13 = true := Y0_g5.1
theorem d1_7_1 : dB S1_7 1 S1_14 = true := Y0_g5.2.1
theorem u1_8 : undB S1_8 3 = true := Y0_g5.2.2.1
theorem d1_8_0 : dB S1_8 0 S1_15 = true := Y0_g5.2.2.2.1
theorem d1_8_1 : dB S1_8 1 S1_15 = true := Y0_g5.2.2.2.2.1
theorem d1_8_2 : dB S1_8 2 S1_16 = true := Y0_g5.2.2.2.2.2.1
theorem u1_9 : undB S1_9 4 = true := Y0_g5.2.2.2.2.2.2.1
theorem d1_9_0 : dB S1_9 0 S1_17 = true := Y0_g5.2.2.2.2.2.2.2
set_option maxRecDepth 1000000 in
theorem Y0_g6 : (dB S1_9 1 S1_17 = true) ∧ (dB S1_9 2 S1_17 = true) ∧ (dB S1_9 3 S1_18 = true) ∧ (undB S1_10 5 = true) ∧ (dB S1_10 0 S1_19 = true) ∧ (dB S1_10 1 S1_19 = true) := ⟨by kernel_rfl, by kernel_rfl, by kernel_rfl, by kernel_rfl, by kernel_rfl, by kernel_rfl⟩
theorem d1_9_1 : dB S1_9 1 S1_17 = true := Y0_g6.1
theorem d1_9_2 : dB S1_9 2 S1_17 = true := Y0_g6.2.1
theorem d1_9_3 : dB S1_9 3 S1_18 = true := Y0_g6.2.2.1
theorem u1_10 : undB S1_10 5 = true := Y0_g6.2.2.2.1
theorem d1_10_0 : dB S1_10 0 S1_19 = true := Y0_g6.2.2.2.2.1
theorem d1_10_1 : dB S1_10 1 S1_19 = true := Y0_g6.2.2.2.2.2
set_option maxRecDepth 1000000 in
theorem Y0_g7 : (dB S1_10 2 S1_19 = true) ∧ (dB S1_10 3 S1_19 = true) ∧ (dB S1_10 4 S1_20 = true) ∧ (undB S1_11 6 = true) ∧ (dB S1_11 0 S1_21 = true) ∧ (dB S1_11 1 S1_21 = true) := ⟨by kernel_rfl, by kernel_rfl, by kernel_rfl, by kernel_rfl, by kernel_rfl, by kernel_rfl⟩
theorem d1_10_2 : dB S1_10 2 S1_19 = true := Y0_g7.1
theorem d1_10_3 : dB S1_10 3 S1_19 = true := Y0_g7.2.1
theorem d1_10_4 : dB S1_10 4 S1_20 = true := Y0_g7.2.2.1
theorem u1_11 : undB S1_11 6 = true := Y0_g7.2.2.2.1
theorem d1_11_0 : dB S1_11 0 S1_21 = true := Y0_g7.2.2.2.2.1
theorem d1_11_1 : dB S1_11 1 S1_21 = true := Y0_g7.2.2.2.2.2
set_option maxRecDepth 1000000 in
theorem Y0_g8 : (dB S1_11 2 S1_21 = true) ∧ (dB S1_11 3 S1_21 = true) ∧ (dB S1_11 4 S1_21 = true) ∧ (dB S1_11 5 S1_22 = true) ∧ (undB S1_12 0 = true) ∧ (undB S1_13 2 = true) ∧ (dB S1_13 0 S1_23 = true) ∧ (dB S1_13 1 S1_23 = true) ∧ (undB S1_14 1 = true) := ⟨by kernel_rfl, by kernel_rfl, by kernel_rfl, by kernel_rfl, by kernel_rfl, by kernel_rfl, by kernel_rfl, by kernel_rfl, by kernel_rfl⟩
theorem d1_11_2 : dB S1_11 2 S1_21 = true := Y0_g8.1
theorem d1_11_3 : dB S1_11 3 S1_21 = true := Y0_g8.2.1
theorem d1_11_4 : dB S1_11 4 S1_21 = true := Y0_g8.2.2.1
theorem d1_11_5 : dB S1_11 5 S1_22 = true := Y0_g8.2.2.2.1
theorem u1_12 : undB S1_12 0 = true := Y0_g8.2.2.2.2.1
theorem u1_13 : undB S1_13 2 = true := Y0_g8.2.2.2.2.2.1
theorem d1_13_0 : dB S1_13 0 S1_23 = true := Y0_g8.2.2.2.2.2.2.1
theorem d1_13_1 : dB S1_13 1 S1_23 = true := Y0_g8.2.2.2.2.2.2.2.1
theorem u1_14 : undB S1_14 1 = true := Y0_g8.2.2.2.2.2.2.2.2
set_option maxRecDepth 1000000 in
theorem Y0_g9 : (dB S1_14 0 S1_23 = true) ∧ (undB S1_15 3 = true) ∧ (dB S1_15 0 S1_24 = true) ∧ (dB S1_15 1 S1_25 = true) ∧ (dB S1_15 2 S1_25 = true) ∧ (undB S1_16 2 = true) ∧ (dB S1_16 0 S1_25 = true) ∧ (dB S1_16 1 S1_25 = true) ∧ (undB S1_17 4 = true) := ⟨by kernel_rfl, by kernel_rfl, by kernel_rfl, by kernel_rfl, by kernel_rfl, by kernel_rfl, by kernel_rfl, by kernel_rfl, by kernel_rfl⟩
theorem d1_14_0 : dB S1_14 0 S1_23 = true := Y0_g9.1
theorem u1_15 : undB S1_15 3 = true := Y0_g9.2.1
theorem d1_15_0 : dB S1_15 0 S1_24 = true := Y0_g9.2.2.1
theorem d1_15_1 : dB S1_15 1 S1_25 = true := Y0_g9.2.2.2.1
theorem d1_15_2 : dB S1_15 2 S1_25 = true := Y0_g9.2.2.2.2.1
theorem u1_16 : undB S1_16 2 = true := Y0_g9.2.2.2.2.2.1
theorem d1_16_0 : dB S1_16 0 S1_25 = true := Y0_g9.2.2.2.2.2.2.1
theorem d1_16_1 : dB S1_16 1 S1_25 = true := Y0_g9.2.2.2.2.2.2.2.1
theorem u1_17 : undB S1_17 4 = true := Y0_g9.2.2.2.2.2.2.2.2

end Go.Proofs.YtaceajadklmddaaGreat
