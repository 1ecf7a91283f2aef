/- The law WorldTwice: what happens (14). -/
import Derived.Test.YtaceajadklmddaaGreatXn0
namespace Go.Proofs.YtaceajadklmddaaGreat
open Go Go.Cx Go.RowKit

set_option maxRecDepth 1000000 in
theorem Y14_g0 : (dB S3_77 0 S3_79 = true) ∧ (dB S3_77 1 S3_80 = true) ∧ (undB S3_78 0 = true) ∧ (undB S3_79 2 = true) ∧ (dB S3_79 0 S3_81 = true) ∧ (dB S3_79 1 S3_81 = true) ∧ (undB S3_80 1 = true) ∧ (dB S3_80 0 S3_81 = true) ∧ (undB S3_81 1 = true) := ⟨by kernel_rfl, by kernel_rfl, by kernel_rfl, by kernel_rfl, by kernel_rfl, by kernel_rfl, by kernel_rfl, by kernel_rfl, by kernel_rfl⟩
theorem d3_77_0 : dB S3_77 0 S3_79 = true := Y14_g0.1
theorem d3_77_1 : dB S3_77 1 S3_80 = true := Y14_g0.2.1
theorem u3_78 : undB S3_78 0 = true := Y14_g0.2.2.1
theorem u3_79 : undB S3_79 2 = true := Y14_g0.2.2.2.1
theorem d3_79_0 : dB S3_79 0 S3_81 = true := Y14_g0.2.2.2.2.1
theorem d3_79_1 : dB S3_79 1 S3_81 = true := Y14_g0.2.2.2.2.2.1
theorem u3_80 : undB S3_80 1 = true := Y14_g0.2.2.2.2.2.2.1
theorem d3_80_0 : dB S3_80 0 S3_81 = true := Y14_g0.2.2.2.2.2.2.2.1
theorem u3_81 : undB S3_81 1 = true := Y14_g0.2.2.2.2.2.2.2.2
set_option maxRecDepth 1000000 in
theorem Y14_g1 : (dB S3_81 0 S3_82 = true) ∧ (undB S3_82 0 = true) ∧ (tl 3 S3_12 = true) ∧ (tl 3 S3_32 = true) ∧ (tl 3 S3_53 = true) ∧ (tl 3 S3_69 = true) ∧ (tl 3 S3_78 = true) ∧ (tl 3 S3_82 = true) ∧ (eq2 9 D4 (numV 0) (numV 0) (.bool true) S4_0 = true) ∧ (eq2 9 S4_0 (numV 0) (numV 0) (.bool true) S4_1 = true) ∧ (eq2 9 S4_1 (numV 0) (numV 0) (.bool true) S4_2 = true) ∧ (eq2 9 S4_2 (numV 0) (numV 0) (.bool true) S4_3 = true) ∧ (eq2 9 S4_3 (numV 0) (numV 0) (.bool true) S4_4 = true) := ⟨by kernel_rfl, by kernel_rfl, by kernel_rfl, by kernel_rfl, by kernel_rfl, by kernel_rfl, by kernel_rfl, by kernel_rfl, by kernel_rfl, by kernel_rfl, by kernel_rfl, by kernel_rfl, by kernel_rfl⟩
theorem d3_81_0 : dB S3_81 0 S3_82 = true := Y14_g1.1
theorem u3_82 : undB S3_82 0 = true := Y14_g1.2.1
theorem t3_12 : tl 3 S3_12 = true := Y14_g1.2.2.1
theorem t3_32 : tl 3 S3_32 = true := Y14_g1.2.2.2.1
theorem t3_53 : tl 3 S3_53 = true := Y14_g1.2.2.2.2.1
theorem t3_69 : tl 3 S3_69 = true := Y14_g1.2.2.2.2.2.1
theorem t3_78 : tl 3 S3_78 = true := Y14_g1.2.2.2.2.2.2.1
theorem t3_82 : tl 3 S3_82 = true := Y14_g1.2.2.2.2.2.2.2.1
theorem se4_0 : eq2 9 D4 (numV 0) (numV 0) (.bool true) S4_0 = true := Y14_g1.2.2.2.2.2.2.2.2.1
theorem se4_1 : eq2 9 S4_0 (numV 0) (numV 0) (.bool true) S4_1 = true := Y14_g1.2.2.2.2.2.2.2.2.2.1
theorem se4_2 : eq2 9 S4_1 (numV 0) (numV 0) (.bool true) S4_2 = true := Y14_g1.2.2.2.2.2.2.2.2.2.2.1
theorem se4_3 : eq2 9 S4_2 (numV 0) (numV 0) (.bool true) S4_3 = true := Y14_g1.2.2.2.2.2.2.2.2.2.2.2.1
theorem se4_4 : eq2 9 S4_3 (numV 0) (numV 0) (.bool true) S4_4 = true := Y14_g1.2.2.2.2.2.2.2.2.2.2.2.2
set_option maxRecDepth 1000000 in
theorem Y14_g2 : (eq2 9 S4_4 (numV 0) (numV 0) (.bool true) S4_5 = true) ∧ (undB S4_0 1 = true) ∧ (dB S4_0 0 S4_6 = true) ∧ (undB S4_1 2 = true) ∧ (dB S4_1 0 S4_7 = true) ∧ (dB S4_1 1 S4_7 = true) ∧ (undB S4_2 3 = true) := ⟨by kernel_rfl, by kernel_rfl, by kernel_rfl, by kernel_rfl, by kernel_rfl, by kernel_rfl, by kernel_rfl⟩
theorem se4_5 : eq2 9 S4_4 (numV 0) (numV 0) (.bool true) S4_5 = true := Y14_g2.1
theorem u4_0 : undB S4_0 1 = true := Y14_g2.2.1
theorem d4_0_0 : dB S4_0 0 S4_6 = true := Y14_g2.2.2.1
theorem u4_1 : undB S4_1 2 = true := Y14_g2.2.2.2.1
theorem d4_1_0 : dB S4_1 0 S4_7 = true := Y14_g2.2.2.2.2.1
theorem d4_1_1 : dB S4_1 1 S4_7 = true := Y14_g2.2.2.2.2.2.1
theorem u4_2 : undB S4_2 3 = true := Y14_g2.2.2.2.2.2.2
set_option maxRecDepth 1000000 in
theorem Y14_g3 : (dB S4_2 0 S4_8 = true) ∧ (dB S4_2 1 S4_8 = true) ∧ (dB S4_2 2 S4_8 = true) ∧ (undB S4_3 4 = true) := ⟨by kernel_rfl, by kernel_rfl, by kernel_rfl, by kernel_rfl⟩
theorem d4_2_0 : dB S4_2 0 S4_8 = true := Y14_g3.1
theorem d4_2_1 : dB S4_2 1 S4_8 = true := Y14_g3.2.1
theorem d4_2_2 : dB S4_2 2 S4_8 = true := Y14_g3.2.2.1
theorem u4_3 : undB S4_3 4 = true := Y14_g3.2.2.2
set_option maxRecDepth 1000000 in
theorem Y14_g4 : (dB S4_3 0 S4_9 = true) ∧ (dB S4_3 1 S4_9 = true) ∧ (dB S4_3 2 S4_9 = true) := ⟨by kernel_rfl, by kernel_rfl, by kernel_rfl⟩
theorem d4_3_0 : dB S4_3 0 S4_9 = true := Y14_g4.1
theorem d4_3_1 : dB S4_3 1 S4_9 = true := Y14_g4.2.1
theorem d4_3_2 : dB S4_3 2 S4_9 = true := Y14_g4.2.2
set_option maxRecDepth 1000000 in
theorem Y14_g5 : (dB S4_3 3 S4_9 = true) ∧ (undB S4_4 5 = true) ∧ (dB S4_4 0 S4_10 = true) ∧ (dB S4_4 1 S4_10 = true) := ⟨by kernel_rfl, by kernel_rfl, by kernel_rfl, by kernel_rfl⟩
theorem d4_3_3 : dB S4_3 3 S4_9 = true := Y14_g5.1
theorem u4_4 : undB S4_4 5 = true := Y14_g5.2.1
theorem d4_4_0 : dB S4_4 0 S4_10 = true := Y14_g5.2.2.1
theorem d4_4_1 : dB S4_4 1 S4_10 = true := Y14_g5.2.2.2
set_option maxRecDepth 1000000 in
theorem Y14_g6 : (dB S4_4 2 S4_10 = true) ∧ (dB S4_4 3 S4_10 = true) ∧ (dB S4_4 4 S4_10 = true) ∧ (undB S4_5 6 = true) := ⟨by kernel_rfl, by kernel_rfl, by kernel_rfl, by kernel_rfl⟩
theorem d4_4_2 : dB S4_4 2 S4_10 = true := Y14_g6.1
theorem d4_4_3 : dB S4_4 3 S4_10 = true := Y14_g6.2.1
theorem d4_4_4 : dB S4_4 4 S4_10 = true := Y14_g6.2.2.1
theorem u4_5 : undB S4_5 6 = true := Y14_g6.2.2.2
set_option maxRecDepth 1000000 in
theorem Y14_g7 : (dB S4_5 0 S4_11 = true) ∧ (dB S4_5 1 S4_11 = true) ∧ (dB S4_5 2 S4_11 = true) := ⟨by kernel_rfl, by kernel_rfl, by kernel_rfl⟩
theorem d4_5_0 : dB S4_5 0 S4_11 = true := Y14_g7.1
theorem d4_5_1 : dB S4_5 1 S4_11 = true := Y14_g7.2.1
theorem d4_5_2 : dB S4_5 2 S4_11 = true := Y14_g7.2.2
set_option maxRecDepth 1000000 in
theorem Y14_g8 : (dB S4_5 3 S4_11 = true) ∧ (dB S4_5 4 S4_11 = true) ∧ (dB S4_5 5 S4_11 = true) ∧ (undB S4_6 1 = true) ∧ (dB S4_6 0 S4_12 = true) ∧ (undB S4_7 2 = true) := ⟨by kernel_rfl, by kernel_rfl, by kernel_rfl, by kernel_rfl, by kernel_rfl, by kernel_rfl⟩
theorem d4_5_3 : dB S4_5 3 S4_11 = true := Y14_g8.1
theorem d4_5_4 : dB S4_5 4 S4_11 = true := Y14_g8.2.1
theorem d4_5_5 : dB S4_5 5 S4_11 = true := Y14_g8.2.2.1
theorem u4_6 : undB S4_6 1 = true := Y14_g8.2.2.2.1
theorem d4_6_0 : dB S4_6 0 S4_12 = true := Y14_g8.2.2.2.2.1
theorem u4_7 : undB S4_7 2 = true := Y14_g8.2.2.2.2.2
set_option maxRecDepth 1000000 in
theorem Y14_g9 : (dB S4_7 0 S4_13 = true) ∧ (dB S4_7 1 S4_14 = true) ∧ (undB S4_8 3 = true) ∧ (dB S4_8 0 S4_15 = true) := ⟨by kernel_rfl, by kernel_rfl, by kernel_rfl, by kernel_rfl⟩
theorem d4_7_0 : dB S4_7 0 S4_13 = true := Y14_g9.1
theorem d4_7_1 : dB S4_7 1 S4_14 = true := Y14_g9.2.1
theorem u4_8 : undB S4_8 3 = true := Y14_g9.2.2.1
theorem d4_8_0 : dB S4_8 0 S4_15 = true := Y14_g9.2.2.2
set_option maxRecDepth 1000000 in
theorem d4_8_1 : dB S4_8 1 S4_15 = true := by kernel_rfl

end Go.Proofs.YtaceajadklmddaaGreat
