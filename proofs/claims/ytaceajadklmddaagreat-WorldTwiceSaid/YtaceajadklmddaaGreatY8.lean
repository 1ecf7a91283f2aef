/- The law WorldTwice: what happens (8). -/
import Derived.Test.YtaceajadklmddaaGreatXn0
namespace Go.Proofs.YtaceajadklmddaaGreat
open Go Go.Cx Go.RowKit

set_option maxRecDepth 1000000 in
theorem Y8_g0 : (dB S2_62 1 S2_68 = true) ∧ (dB S2_62 2 S2_68 = true) ∧ (undB S2_63 1 = true) ∧ (dB S2_63 0 S2_69 = true) ∧ (undB S2_64 3 = true) ∧ (dB S2_64 0 S2_70 = true) ∧ (dB S2_64 1 S2_70 = true) ∧ (dB S2_64 2 S2_70 = true) ∧ (undB S2_65 2 = true) := ⟨by kernel_rfl, by kernel_rfl, by kernel_rfl, by kernel_rfl, by kernel_rfl, by kernel_rfl, by kernel_rfl, by kernel_rfl, by kernel_rfl⟩
theorem d2_62_1 : dB S2_62 1 S2_68 = true := Y8_g0.1
theorem d2_62_2 : dB S2_62 2 S2_68 = true := Y8_g0.2.1
theorem u2_63 : undB S2_63 1 = true := Y8_g0.2.2.1
theorem d2_63_0 : dB S2_63 0 S2_69 = true := Y8_g0.2.2.2.1
theorem u2_64 : undB S2_64 3 = true := Y8_g0.2.2.2.2.1
theorem d2_64_0 : dB S2_64 0 S2_70 = true := Y8_g0.2.2.2.2.2.1
theorem d2_64_1 : dB S2_64 1 S2_70 = true := Y8_g0.2.2.2.2.2.2.1
theorem d2_64_2 : dB S2_64 2 S2_70 = true := Y8_g0.2.2.2.2.2.2.2.1
theorem u2_65 : undB S2_65 2 = true := Y8_g0.2.2.2.2.2.2.2.2
set_option maxRecDepth 1000000 in
theorem Y8_g1 : (dB S2_65 0 S2_70 = true) ∧ (dB S2_65 1 S2_71 = true) ∧ (undB S2_66 5 = true) ∧ (dB S2_66 0 S2_72 = true) ∧ (dB S2_66 1 S2_72 = true) ∧ (dB S2_66 2 S2_72 = true) ∧ (dB S2_66 3 S2_72 = true) ∧ (dB S2_66 4 S2_72 = true) ∧ (undB S2_67 4 = true) := ⟨by kernel_rfl, by kernel_rfl, by kernel_rfl, by kernel_rfl, by kernel_rfl, by kernel_rfl, by kernel_rfl, by kernel_rfl, by kernel_rfl⟩
theorem d2_65_0 : dB S2_65 0 S2_70 = true := Y8_g1.1
theorem d2_65_1 : dB S2_65 1 S2_71 = true := Y8_g1.2.1
theorem u2_66 : undB S2_66 5 = true := Y8_g1.2.2.1
theorem d2_66_0 : dB S2_66 0 S2_72 = true := Y8_g1.2.2.2.1
theorem d2_66_1 : dB S2_66 1 S2_72 = true := Y8_g1.2.2.2.2.1
theorem d2_66_2 : dB S2_66 2 S2_72 = true := Y8_g1.2.2.2.2.2.1
theorem d2_66_3 : dB S2_66 3 S2_72 = true := Y8_g1.2.2.2.2.2.2.1
theorem d2_66_4 : dB S2_66 4 S2_72 = true := Y8_g1.2.2.2.2.2.2.2.1
theorem u2_67 : undB S2_67 4 = true := Y8_g1.2.2.2.2.2.2.2.2
set_option maxRecDepth 1000000 in
theorem Y8_g2 : (dB S2_67 0 S2_72 = true) ∧ (dB S2_67 1 S2_73 = true) ∧ (dB S2_67 2 S2_73 = true) ∧ (dB S2_67 3 S2_73 = true) ∧ (undB S2_68 3 = true) ∧ (dB S2_68 0 S2_73 = true) := ⟨by kernel_rfl, by kernel_rfl, by kernel_rfl, by kernel_rfl, by kernel_rfl, by kernel_rfl⟩
theorem d2_67_0 : dB S2_67 0 S2_72 = true := Y8_g2.1
theorem d2_67_1 : dB S2_67 1 S2_73 = true := Y8_g2.2.1
theorem d2_67_2 : dB S2_67 2 S2_73 = true := Y8_g2.2.2.1
theorem d2_67_3 : dB S2_67 3 S2_73 = true := Y8_g2.2.2.2.1
theorem u2_68 : undB S2_68 3 = true := Y8_g2.2.2.2.2.1
theorem d2_68_0 : dB S2_68 0 S2_73 = true := Y8_g2.2.2.2.2.2
set_option maxRecDepth 1000000 in
theorem Y8_g3 : (dB S2_68 1 S2_73 = true) ∧ (dB S2_68 2 S2_74 = true) ∧ (undB S2_69 0 = true) ∧ (undB S2_70 2 = true) ∧ (dB S2_70 0 S2_75 = true) ∧ (dB S2_70 1 S2_75 = true) ∧ (undB S2_71 1 = true) ∧ (dB S2_71 0 S2_75 = true) ∧ (undB S2_72 4 = true) ∧ (dB S2_72 0 S2_76 = true) ∧ (dB S2_72 1 S2_76 = true) := ⟨by kernel_rfl, by kernel_rfl, by kernel_rfl, by kernel_rfl, by kernel_rfl, by kernel_rfl, by kernel_rfl, by kernel_rfl, by kernel_rfl, by kernel_rfl, by kernel_rfl⟩
theorem d2_68_1 : dB S2_68 1 S2_73 = true := Y8_g3.1
theorem d2_68_2 : dB S2_68 2 S2_74 = true := Y8_g3.2.1
theorem u2_69 : undB S2_69 0 = true := Y8_g3.2.2.1
theorem u2_70 : undB S2_70 2 = true := Y8_g3.2.2.2.1
theorem d2_70_0 : dB S2_70 0 S2_75 = true := Y8_g3.2.2.2.2.1
theorem d2_70_1 : dB S2_70 1 S2_75 = true := Y8_g3.2.2.2.2.2.1
theorem u2_71 : undB S2_71 1 = true := Y8_g3.2.2.2.2.2.2.1
theorem d2_71_0 : dB S2_71 0 S2_75 = true := Y8_g3.2.2.2.2.2.2.2.1
theorem u2_72 : undB S2_72 4 = true := Y8_g3.2.2.2.2.2.2.2.2.1
theorem d2_72_0 : dB S2_72 0 S2_76 = true := Y8_g3.2.2.2.2.2.2.2.2.2.1
theorem d2_72_1 : dB S2_72 1 S2_76 = true := Y8_g3.2.2.2.2.2.2.2.2.2.2
set_option maxRecDepth 1000000 in
theorem Y8_g4 : (dB S2_72 2 S2_76 = true) ∧ (dB S2_72 3 S2_76 = true) ∧ (undB S2_73 3 = true) ∧ (dB S2_73 0 S2_76 = true) ∧ (dB S2_73 1 S2_77 = true) ∧ (dB S2_73 2 S2_77 = true) ∧ (undB S2_74 2 = true) ∧ (dB S2_74 0 S2_77 = true) := ⟨by kernel_rfl, by kernel_rfl, by kernel_rfl, by kernel_rfl, by kernel_rfl, by kernel_rfl, by kernel_rfl, by kernel_rfl⟩
theorem d2_72_2 : dB S2_72 2 S2_76 = true := Y8_g4.1
theorem d2_72_3 : dB S2_72 3 S2_76 = true := Y8_g4.2.1
theorem u2_73 : undB S2_73 3 = true := Y8_g4.2.2.1
theorem d2_73_0 : dB S2_73 0 S2_76 = true := Y8_g4.2.2.2.1
theorem d2_73_1 : dB S2_73 1 S2_77 = true := Y8_g4.2.2.2.2.1
theorem d2_73_2 : dB S2_73 2 S2_77 = true := Y8_g4.2.2.2.2.2.1
theorem u2_74 : undB S2_74 2 = true := Y8_g4.2.2.2.2.2.2.1
theorem d2_74_0 : dB S2_74 0 S2_77 = true := Y8_g4.2.2.2.2.2.2.2
set_option maxRecDepth 1000000 in
theorem Y8_g5 : (dB S2_74 1 S2_77 = true) ∧ (undB S2_75 1 = true) ∧ (dB S2_75 0 S2_78 = true) ∧ (undB S2_76 3 = true) ∧ (dB S2_76 0 S2_79 = true) ∧ (dB S2_76 1 S2_79 = true) ∧ (dB S2_76 2 S2_79 = true) ∧ (undB S2_77 2 = true) ∧ (dB S2_77 0 S2_79 = true) ∧ (dB S2_77 1 S2_80 = true) ∧ (undB S2_78 0 = true) := ⟨by kernel_rfl, by kernel_rfl, by kernel_rfl, by kernel_rfl, by kernel_rfl, by kernel_rfl, by kernel_rfl, by kernel_rfl, by kernel_rfl, by kernel_rfl, by kernel_rfl⟩
theorem d2_74_1 : dB S2_74 1 S2_77 = true := Y8_g5.1
theorem u2_75 : undB S2_75 1 = true := Y8_g5.2.1
theorem d2_75_0 : dB S2_75 0 S2_78 = true := Y8_g5.2.2.1
theorem u2_76 : undB S2_76 3 = true := Y8_g5.2.2.2.1
theorem d2_76_0 : dB S2_76 0 S2_79 = true := Y8_g5.2.2.2.2.1
theorem d2_76_1 : dB S2_76 1 S2_79 = true := Y8_g5.2.2.2.2.2.1
theorem d2_76_2 : dB S2_76 2 S2_79 = true := Y8_g5.2.2.2.2.2.2.1
theorem u2_77 : undB S2_77 2 = true := Y8_g5.2.2.2.2.2.2.2.1
theorem d2_77_0 : dB S2_77 0 S2_79 = true := Y8_g5.2.2.2.2.2.2.2.2.1
theorem d2_77_1 : dB S2_77 1 S2_80 = true := Y8_g5.2.2.2.2.2.2.2.2.2.1
theorem u2_78 : undB S2_78 0 = true := Y8_g5.2.2.2.2.2.2.2.2.2.2
set_option maxRecDepth 1000000 in
theorem Y8_g6 : (undB S2_79 2 = true) ∧ (dB S2_79 0 S2_81 = true) ∧ (dB S2_79 1 S2_81 = true) ∧ (undB S2_80 1 = true) ∧ (dB S2_80 0 S2_81 = true) ∧ (undB S2_81 1 = true) ∧ (dB S2_81 0 S2_82 = true) ∧ (undB S2_82 0 = true) ∧ (tl 2 S2_12 = true) ∧ (tl 2 S2_32 = true) ∧ (tl 2 S2_53 = true) ∧ (tl 2 S2_69 = true) ∧ (tl 2 S2_78 = true) ∧ (tl 2 S2_82 = true) ∧ (eq2 9 D3 (numV 0) (numV 0) (.bool true) S3_0 = true) ∧ (eq2 9 S3_0 (numV 0) (numV 0) (.bool true) S3_1 = true) := ⟨by kernel_rfl, by kernel_rfl, by kernel_rfl, by kernel_rfl, by kernel_rfl, by kernel_rfl, by kernel_rfl, by kernel_rfl, by kernel_rfl, by kernel_rfl, by kernel_rfl, by kernel_rfl, by kernel_rfl, by kernel_rfl, by kernel_rfl, by kernel_rfl⟩
theorem u2_79 : undB S2_79 2 = true := Y8_g6.1
theorem d2_79_0 : dB S2_79 0 S2_81 = true := Y8_g6.2.1
theorem d2_79_1 : dB S2_79 1 S2_81 = true := Y8_g6.2.2.1
theorem u2_80 : undB S2_80 1 = true := Y8_g6.2.2.2.1
theorem d2_80_0 : dB S2_80 0 S2_81 = true := Y8_g6.2.2.2.2.1
theorem u2_81 : undB S2_81 1 = true := Y8_g6.2.2.2.2.2.1
theorem d2_81_0 : dB S2_81 0 S2_82 = true := Y8_g6.2.2.2.2.2.2.1
theorem u2_82 : undB S2_82 0 = true := Y8_g6.2.2.2.2.2.2.2.1
theorem t2_12 : tl 2 S2_12 = true := Y8_g6.2.2.2.2.2.2.2.2.1
theorem t2_32 : tl 2 S2_32 = true := Y8_g6.2.2.2.2.2.2.2.2.2.1
theorem t2_53 : tl 2 S2_53 = true := Y8_g6.2.2.2.2.2.2.2.2.2.2.1
theorem t2_69 : tl 2 S2_69 = true := Y8_g6.2.2.2.2.2.2.2.2.2.2.2.1
theorem t2_78 : tl 2 S2_78 = true := Y8_g6.2.2.2.2.2.2.2.2.2.2.2.2.1
theorem t2_82 : tl 2 S2_82 = true := Y8_g6.2.2.2.2.2.2.2.2.2.2.2.2.2.1
theorem se3_0 : eq2 9 D3 (numV 0) (numV 0) (.bool true) S3_0 = true := Y8_g6.2.2.2.2.2.2.2.2.2.2.2.2.2.2.1
theorem se3_1 : eq2 9 S3_0 (numV 0) (numV 0) (.bool true) S3_1 = true := Y8_g6.2.2.2.2.2.2.2.2.2.2.2.2.2.2.2
set_option maxRecDepth 1000000 in
theorem Y8_g7 : (eq2 9 S3_1 (numV 0) (numV 0) (.bool true) S3_2 = true) ∧ (eq2 9 S3_2 (numV 0) (numV 0) (.bool true) S3_3 = true) ∧ (eq2 9 S3_3 (numV 0) (numV 0) (.bool true) S3_4 = true) ∧ (eq2 9 S3_4 (numV 0) (numV 0) (.bool true) S3_5 = true) ∧ (undB S3_0 1 = true) ∧ (dB S3_0 0 S3_6 = true) ∧ (undB S3_1 2 = true) ∧ (dB S3_1 0 S3_7 = true) := ⟨by kernel_rfl, by kernel_rfl, by kernel_rfl, by kernel_rfl, by kernel_rfl, by kernel_rfl, by kernel_rfl, by kernel_rfl⟩
theorem se3_2 : eq2 9 S3_1 (numV 0) (numV 0) (.bool true) S3_2 = true := Y8_g7.1
theorem se3_3 : eq2 9 S3_2 (numV 0) (numV 0) (.bool true) S3_3 = true := Y8_g7.2.1
theorem se3_4 : eq2 9 S3_3 (numV 0) (numV 0) (.bool true) S3_4 = true := Y8_g7.2.2.1
theorem se3_5 : eq2 9 S3_4 (numV 0) (numV 0) (.bool true) S3_5 = true := Y8_g7.2.2.2.1
theorem u3_0 : undB S3_0 1 = true := Y8_g7.2.2.2.2.1
theorem d3_0_0 : dB S3_0 0 S3_6 = true := Y8_g7.2.2.2.2.2.1
theorem u3_1 : undB S3_1 2 = true := Y8_g7.2.2.2.2.2.2.1
theorem d3_1_0 : dB S3_1 0 S3_7 = true := Y8_g7.2.2.2.2.2.2.2
set_option maxRecDepth 1000000 in
theorem Y8_g8 : (dB S3_1 1 S3_7 = true) ∧ (undB S3_2 3 = true) ∧ (dB S3_2 0 S3_8 = true) ∧ (dB S3_2 1 S3_8 = true) ∧ (dB S3_2 2 S3_8 = true) ∧ (undB S3_3 4 = true) := ⟨by kernel_rfl, by kernel_rfl, by kernel_rfl, by kernel_rfl, by kernel_rfl, by kernel_rfl⟩
theorem d3_1_1 : dB S3_1 1 S3_7 = true := Y8_g8.1
theorem u3_2 : undB S3_2 3 = true := Y8_g8.2.1
theorem d3_2_0 : dB S3_2 0 S3_8 = true := Y8_g8.2.2.1
theorem d3_2_1 : dB S3_2 1 S3_8 = true := Y8_g8.2.2.2.1
theorem d3_2_2 : dB S3_2 2 S3_8 = true := Y8_g8.2.2.2.2.1
theorem u3_3 : undB S3_3 4 = true := Y8_g8.2.2.2.2.2
set_option maxRecDepth 1000000 in
theorem Y8_g9 : (dB S3_3 0 S3_9 = true) ∧ (dB S3_3 1 S3_9 = true) ∧ (dB S3_3 2 S3_9 = true) ∧ (dB S3_3 3 S3_9 = true) ∧ (undB S3_4 5 = true) := ⟨by kernel_rfl, by kernel_rfl, by kernel_rfl, by kernel_rfl, by kernel_rfl⟩
theorem d3_3_0 : dB S3_3 0 S3_9 = true := Y8_g9.1
theorem d3_3_1 : dB S3_3 1 S3_9 = true := Y8_g9.2.1
theorem d3_3_2 : dB S3_3 2 S3_9 = true := Y8_g9.2.2.1
theorem d3_3_3 : dB S3_3 3 S3_9 = true := Y8_g9.2.2.2.1
theorem u3_4 : undB S3_4 5 = true := Y8_g9.2.2.2.2

end Go.Proofs.YtaceajadklmddaaGreat
