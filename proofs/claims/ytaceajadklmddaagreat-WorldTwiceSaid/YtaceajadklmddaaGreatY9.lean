/- The law WorldTwice: what happens (9). -/
import Derived.Test.YtaceajadklmddaaGreatXn0
namespace Go.Proofs.YtaceajadklmddaaGreat
open Go Go.Cx Go.RowKit

set_option maxRecDepth 1000000 in
theorem Y9_g0 : (dB S3_4 0 S3_10 = true) ∧ (dB S3_4 1 S3_10 = true) ∧ (dB S3_4 2 S3_10 = true) ∧ (dB S3_4 3 S3_10 = true) := ⟨by kernel_rfl, by kernel_rfl, by kernel_rfl, by kernel_rfl⟩
theorem d3_4_0 : dB S3_4 0 S3_10 = true := Y9_g0.1
theorem d3_4_1 : dB S3_4 1 S3_10 = true := Y9_g0.2.1
theorem d3_4_2 : dB S3_4 2 S3_10 = true := Y9_g0.2.2.1
theorem d3_4_3 : dB S3_4 3 S3_10 = true := Y9_g0.2.2.2
set_option maxRecDepth 1000000 in
theorem Y9_g1 : (dB S3_4 4 S3_10 = true) ∧ (undB S3_5 6 = true) ∧ (dB S3_5 0 S3_11 = true) ∧ (dB S3_5 1 S3_11 = true) ∧ (dB S3_5 2 S3_11 = true) := ⟨by kernel_rfl, by kernel_rfl, by kernel_rfl, by kernel_rfl, by kernel_rfl⟩
theorem d3_4_4 : dB S3_4 4 S3_10 = true := Y9_g1.1
theorem u3_5 : undB S3_5 6 = true := Y9_g1.2.1
theorem d3_5_0 : dB S3_5 0 S3_11 = true := Y9_g1.2.2.1
theorem d3_5_1 : dB S3_5 1 S3_11 = true := Y9_g1.2.2.2.1
theorem d3_5_2 : dB S3_5 2 S3_11 = true := Y9_g1.2.2.2.2
set_option maxRecDepth 1000000 in
theorem Y9_g2 : (dB S3_5 3 S3_11 = true) ∧ (dB S3_5 4 S3_11 = true) ∧ (dB S3_5 5 S3_11 = true) ∧ (undB S3_6 1 = true) ∧ (dB S3_6 0 S3_12 = true) ∧ (undB S3_7 2 = true) := ⟨by kernel_rfl, by kernel_rfl, by kernel_rfl, by kernel_rfl, by kernel_rfl, by kernel_rfl⟩
theorem d3_5_3 : dB S3_5 3 S3_11 = true := Y9_g2.1
theorem d3_5_4 : dB S3_5 4 S3_11 = true := Y9_g2.2.1
theorem d3_5_5 : dB S3_5 5 S3_11 = true := Y9_g2.2.2.1
theorem u3_6 : undB S3_6 1 = true := Y9_g2.2.2.2.1
theorem d3_6_0 : dB S3_6 0 S3_12 = true := Y9_g2.2.2.2.2.1
theorem u3_7 : undB S3_7 2 = true := Y9_g2.2.2.2.2.2
set_option maxRecDepth 1000000 in
theorem Y9_g3 : (dB S3_7 0 S3_13 = true) ∧ (dB S3_7 1 S3_14 = true) ∧ (undB S3_8 3 = true) ∧ (dB S3_8 0 S3_15 = true) ∧ (dB S3_8 1 S3_15 = true) := ⟨by kernel_rfl, by kernel_rfl, by kernel_rfl, by kernel_rfl, by kernel_rfl⟩
theorem d3_7_0 : dB S3_7 0 S3_13 = true := Y9_g3.1
theorem d3_7_1 : dB S3_7 1 S3_14 = true := Y9_g3.2.1
theorem u3_8 : undB S3_8 3 = true := Y9_g3.2.2.1
theorem d3_8_0 : dB S3_8 0 S3_15 = true := Y9_g3.2.2.2.1
theorem d3_8_1 : dB S3_8 1 S3_15 = true := Y9_g3.2.2.2.2
set_option maxRecDepth 1000000 in
theorem Y9_g4 : (dB S3_8 2 S3_16 = true) ∧ (undB S3_9 4 = true) ∧ (dB S3_9 0 S3_17 = true) ∧ (dB S3_9 1 S3_17 = true) := ⟨by kernel_rfl, by kernel_rfl, by kernel_rfl, by kernel_rfl⟩
theorem d3_8_2 : dB S3_8 2 S3_16 = true := Y9_g4.1
theorem u3_9 : undB S3_9 4 = true := Y9_g4.2.1
theorem d3_9_0 : dB S3_9 0 S3_17 = true := Y9_g4.2.2.1
theorem d3_9_1 : dB S3_9 1 S3_17 = true := Y9_g4.2.2.2
set_option maxRecDepth 1000000 in
theorem Y9_g5 : (dB S3_9 2 S3_17 = true) ∧ (dB S3_9 3 S3_18 = true) ∧ (undB S3_10 5 = true) ∧ (dB S3_10 0 S3_19 = true) := ⟨by kernel_rfl, by kernel_rfl, by kernel_rfl, by kernel_rfl⟩
theorem d3_9_2 : dB S3_9 2 S3_17 = true := Y9_g5.1
theorem d3_9_3 : dB S3_9 3 S3_18 = true := Y9_g5.2.1
theorem u3_10 : undB S3_10 5 = true := Y9_g5.2.2.1
theorem d3_10_0 : dB S3_10 0 S3_19 = true := Y9_g5.2.2.2
set_option maxRecDepth 1000000 in
theorem Y9_g6 : (dB S3_10 1 S3_19 = true) ∧ (dB S3_10 2 S3_19 = true) ∧ (dB S3_10 3 S3_19 = true) ∧ (dB S3_10 4 S3_20 = true) := ⟨by kernel_rfl, by kernel_rfl, by kernel_rfl, by kernel_rfl⟩
theorem d3_10_1 : dB S3_10 1 S3_19 = true := Y9_g6.1
theorem d3_10_2 : dB S3_10 2 S3_19 = true := Y9_g6.2.1
theorem d3_10_3 : dB S3_10 3 S3_19 = true := Y9_g6.2.2.1
theorem d3_10_4 : dB S3_10 4 S3_20 = true := Y9_g6.2.2.2
set_option maxRecDepth 1000000 in
theorem Y9_g7 : (undB S3_11 6 = true) ∧ (dB S3_11 0 S3_21 = true) ∧ (dB S3_11 1 S3_21 = true) ∧ (dB S3_11 2 S3_21 = true) := ⟨by kernel_rfl, by kernel_rfl, by kernel_rfl, by kernel_rfl⟩
theorem u3_11 : undB S3_11 6 = true := Y9_g7.1
theorem d3_11_0 : dB S3_11 0 S3_21 = true := Y9_g7.2.1
theorem d3_11_1 : dB S3_11 1 S3_21 = true := Y9_g7.2.2.1
theorem d3_11_2 : dB S3_11 2 S3_21 = true := Y9_g7.2.2.2
set_option maxRecDepth 1000000 in
theorem Y9_g8 : (dB S3_11 3 S3_21 = true) ∧ (dB S3_11 4 S3_21 = true) ∧ (dB S3_11 5 S3_22 = true) ∧ (undB S3_12 0 = true) ∧ (undB S3_13 2 = true) ∧ (dB S3_13 0 S3_23 = true) ∧ (dB S3_13 1 S3_23 = true) ∧ (undB S3_14 1 = true) := ⟨by kernel_rfl, by kernel_rfl, by kernel_rfl, by kernel_rfl, by kernel_rfl, by kernel_rfl, by kernel_rfl, by kernel_rfl⟩
theorem d3_11_3 : dB S3_11 3 S3_21 = true := Y9_g8.1
theorem d3_11_4 : dB S3_11 4 S3_21 = true := Y9_g8.2.1
theorem d3_11_5 : dB S3_11 5 S3_22 = true := Y9_g8.2.2.1
theorem u3_12 : undB S3_12 0 = true := Y9_g8.2.2.2.1
theorem u3_13 : undB S3_13 2 = true := Y9_g8.2.2.2.2.1
theorem d3_13_0 : dB S3_13 0 S3_23 = true := Y9_g8.2.2.2.2.2.1
theorem d3_13_1 : dB S3_13 1 S3_23 = true := Y9_g8.2.2.2.2.2.2.1
theorem u3_14 : undB S3_14 1 = true := Y9_g8.2.2.2.2.2.2.2
set_option maxRecDepth 1000000 in
theorem Y9_g9 : (dB S3_14 0 S3_23 = true) ∧ (undB S3_15 3 = true) ∧ (dB S3_15 0 S3_24 = true) ∧ (dB S3_15 1 S3_25 = true) ∧ (dB S3_15 2 S3_25 = true) ∧ (undB S3_16 2 = true) := ⟨by kernel_rfl, by kernel_rfl, by kernel_rfl, by kernel_rfl, by kernel_rfl, by kernel_rfl⟩
theorem d3_14_0 : dB S3_14 0 S3_23 = true := Y9_g9.1
theorem u3_15 : undB S3_15 3 = true := Y9_g9.2.1
theorem d3_15_0 : dB S3_15 0 S3_24 = true := Y9_g9.2.2.1
theorem d3_15_1 : dB S3_15 1 S3_25 = true := Y9_g9.2.2.2.1
theorem d3_15_2 : dB S3_15 2 S3_25 = true := Y9_g9.2.2.2.2.1
theorem u3_16 : undB S3_16 2 = true := Y9_g9.2.2.2.2.2
set_option maxRecDepth 1000000 in
theorem d3_16_0 : dB S3_16 0 S3_25 = true := by kernel_rfl

end Go.Proofs.YtaceajadklmddaaGreat
