/- The law WorldTwice: what happens (3). -/
import Derived.Test.YtaceajadklmddaaGreatXn0
namespace Go.Proofs.YtaceajadklmddaaGreat
open Go Go.Cx Go.RowKit

set_option maxRecDepth 1000000 in
theorem Y3_g0 : (dB S1_52 2 S1_61 = true) ∧ (dB S1_52 3 S1_62 = true) ∧ (undB S1_53 0 = true) ∧ (undB S1_54 2 = true) ∧ (dB S1_54 0 S1_63 = true) ∧ (dB S1_54 1 S1_63 = true) ∧ (undB S1_55 1 = true) ∧ (dB S1_55 0 S1_63 = true) ∧ (undB S1_56 4 = true) ∧ (dB S1_56 0 S1_64 = true) ∧ (dB S1_56 1 S1_64 = true) ∧ (dB S1_56 2 S1_64 = true) ∧ (dB S1_56 3 S1_64 = true) := ⟨by kernel_rfl, by kernel_rfl, by kernel_rfl, by kernel_rfl, by kernel_rfl, by kernel_rfl, by kernel_rfl, by kernel_rfl, by kernel_rfl, by kernel_rfl, by kernel_rfl, by kernel_rfl, by kernel_rfl⟩
theorem d1_52_2 : dB S1_52 2 S1_61 = true := Y3_g0.1
theorem d1_52_3 : dB S1_52 3 S1_62 = true := Y3_g0.2.1
theorem u1_53 : undB S1_53 0 = true := Y3_g0.2.2.1
theorem u1_54 : undB S1_54 2 = true := Y3_g0.2.2.2.1
theorem d1_54_0 : dB S1_54 0 S1_63 = true := Y3_g0.2.2.2.2.1
theorem d1_54_1 : dB S1_54 1 S1_63 = true := Y3_g0.2.2.2.2.2.1
theorem u1_55 : undB S1_55 1 = true := Y3_g0.2.2.2.2.2.2.1
theorem d1_55_0 : dB S1_55 0 S1_63 = true := Y3_g0.2.2.2.2.2.2.2.1
theorem u1_56 : undB S1_56 4 = true := Y3_g0.2.2.2.2.2.2.2.2.1
theorem d1_56_0 : dB S1_56 0 S1_64 = true := Y3_g0.2.2.2.2.2.2.2.2.2.1
theorem d1_56_1 : dB S1_56 1 S1_64 = true := Y3_g0.2.2.2.2.2.2.2.2.2.2.1
theorem d1_56_2 : dB S1_56 2 S1_64 = true := Y3_g0.2.2.2.2.2.2.2.2.2.2.2.1
theorem d1_56_3 : dB S1_56 3 S1_64 = true := Y3_g0.2.2.2.2.2.2.2.2.2.2.2.2
set_option maxRecDepth 1000000 in
theorem Y3_g1 : (undB S1_57 3 = true) ∧ (dB S1_57 0 S1_64 = true) ∧ (dB S1_57 1 S1_65 = true) ∧ (dB S1_57 2 S1_65 = true) ∧ (undB S1_58 2 = true) ∧ (dB S1_58 0 S1_65 = true) ∧ (dB S1_58 1 S1_65 = true) ∧ (undB S1_59 6 = true) ∧ (dB S1_59 0 S1_66 = true) ∧ (dB S1_59 1 S1_66 = true) := ⟨by kernel_rfl, by kernel_rfl, by kernel_rfl, by kernel_rfl, by kernel_rfl, by kernel_rfl, by kernel_rfl, by kernel_rfl, by kernel_rfl, by kernel_rfl⟩
theorem u1_57 : undB S1_57 3 = true := Y3_g1.1
theorem d1_57_0 : dB S1_57 0 S1_64 = true := Y3_g1.2.1
theorem d1_57_1 : dB S1_57 1 S1_65 = true := Y3_g1.2.2.1
theorem d1_57_2 : dB S1_57 2 S1_65 = true := Y3_g1.2.2.2.1
theorem u1_58 : undB S1_58 2 = true := Y3_g1.2.2.2.2.1
theorem d1_58_0 : dB S1_58 0 S1_65 = true := Y3_g1.2.2.2.2.2.1
theorem d1_58_1 : dB S1_58 1 S1_65 = true := Y3_g1.2.2.2.2.2.2.1
theorem u1_59 : undB S1_59 6 = true := Y3_g1.2.2.2.2.2.2.2.1
theorem d1_59_0 : dB S1_59 0 S1_66 = true := Y3_g1.2.2.2.2.2.2.2.2.1
theorem d1_59_1 : dB S1_59 1 S1_66 = true := Y3_g1.2.2.2.2.2.2.2.2.2
set_option maxRecDepth 1000000 in
theorem Y3_g2 : (dB S1_59 2 S1_66 = true) ∧ (dB S1_59 3 S1_66 = true) ∧ (dB S1_59 4 S1_66 = true) ∧ (dB S1_59 5 S1_66 = true) ∧ (undB S1_60 5 = true) ∧ (dB S1_60 0 S1_66 = true) ∧ (dB S1_60 1 S1_67 = true) ∧ (dB S1_60 2 S1_67 = true) ∧ (dB S1_60 3 S1_67 = true) ∧ (dB S1_60 4 S1_67 = true) ∧ (undB S1_61 4 = true) := ⟨by kernel_rfl, by kernel_rfl, by kernel_rfl, by kernel_rfl, by kernel_rfl, by kernel_rfl, by kernel_rfl, by kernel_rfl, by kernel_rfl, by kernel_rfl, by kernel_rfl⟩
theorem d1_59_2 : dB S1_59 2 S1_66 = true := Y3_g2.1
theorem d1_59_3 : dB S1_59 3 S1_66 = true := Y3_g2.2.1
theorem d1_59_4 : dB S1_59 4 S1_66 = true := Y3_g2.2.2.1
theorem d1_59_5 : dB S1_59 5 S1_66 = true := Y3_g2.2.2.2.1
theorem u1_60 : undB S1_60 5 = true := Y3_g2.2.2.2.2.1
theorem d1_60_0 : dB S1_60 0 S1_66 = true := Y3_g2.2.2.2.2.2.1
theorem d1_60_1 : dB S1_60 1 S1_67 = true := Y3_g2.2.2.2.2.2.2.1
theorem d1_60_2 : dB S1_60 2 S1_67 = true := Y3_g2.2.2.2.2.2.2.2.1
theorem d1_60_3 : dB S1_60 3 S1_67 = true := Y3_g2.2.2.2.2.2.2.2.2.1
theorem d1_60_4 : dB S1_60 4 S1_67 = true := Y3_g2.2.2.2.2.2.2.2.2.2.1
theorem u1_61 : undB S1_61 4 = true := Y3_g2.2.2.2.2.2.2.2.2.2.2
set_option maxRecDepth 1000000 in
theorem Y3_g3 : (dB S1_61 0 S1_67 = true) ∧ (dB S1_61 1 S1_67 = true) ∧ (dB S1_61 2 S1_68 = true) ∧ (dB S1_61 3 S1_68 = true) ∧ (undB S1_62 3 = true) ∧ (dB S1_62 0 S1_68 = true) ∧ (dB S1_62 1 S1_68 = true) := ⟨by kernel_rfl, by kernel_rfl, by kernel_rfl, by kernel_rfl, by kernel_rfl, by kernel_rfl, by kernel_rfl⟩
theorem d1_61_0 : dB S1_61 0 S1_67 = true := Y3_g3.1
theorem d1_61_1 : dB S1_61 1 S1_67 = true := Y3_g3.2.1
theorem d1_61_2 : dB S1_61 2 S1_68 = true := Y3_g3.2.2.1
theorem d1_61_3 : dB S1_61 3 S1_68 = true := Y3_g3.2.2.2.1
theorem u1_62 : undB S1_62 3 = true := Y3_g3.2.2.2.2.1
theorem d1_62_0 : dB S1_62 0 S1_68 = true := Y3_g3.2.2.2.2.2.1
theorem d1_62_1 : dB S1_62 1 S1_68 = true := Y3_g3.2.2.2.2.2.2
set_option maxRecDepth 1000000 in
theorem Y3_g4 : (dB S1_62 2 S1_68 = true) ∧ (undB S1_63 1 = true) ∧ (dB S1_63 0 S1_69 = true) ∧ (undB S1_64 3 = true) ∧ (dB S1_64 0 S1_70 = true) ∧ (dB S1_64 1 S1_70 = true) ∧ (dB S1_64 2 S1_70 = true) ∧ (undB S1_65 2 = true) ∧ (dB S1_65 0 S1_70 = true) ∧ (dB S1_65 1 S1_71 = true) ∧ (undB S1_66 5 = true) ∧ (dB S1_66 0 S1_72 = true) ∧ (dB S1_66 1 S1_72 = true) := ⟨by kernel_rfl, by kernel_rfl, by kernel_rfl, by kernel_rfl, by kernel_rfl, by kernel_rfl, by kernel_rfl, by kernel_rfl, by kernel_rfl, by kernel_rfl, by kernel_rfl, by kernel_rfl, by kernel_rfl⟩
theorem d1_62_2 : dB S1_62 2 S1_68 = true := Y3_g4.1
theorem u1_63 : undB S1_63 1 = true := Y3_g4.2.1
theorem d1_63_0 : dB S1_63 0 S1_69 = true := Y3_g4.2.2.1
theorem u1_64 : undB S1_64 3 = true := Y3_g4.2.2.2.1
theorem d1_64_0 : dB S1_64 0 S1_70 = true := Y3_g4.2.2.2.2.1
theorem d1_64_1 : dB S1_64 1 S1_70 = true := Y3_g4.2.2.2.2.2.1
theorem d1_64_2 : dB S1_64 2 S1_70 = true := Y3_g4.2.2.2.2.2.2.1
theorem u1_65 : undB S1_65 2 = true := Y3_g4.2.2.2.2.2.2.2.1
theorem d1_65_0 : dB S1_65 0 S1_70 = true := Y3_g4.2.2.2.2.2.2.2.2.1
theorem d1_65_1 : dB S1_65 1 S1_71 = true := Y3_g4.2.2.2.2.2.2.2.2.2.1
theorem u1_66 : undB S1_66 5 = true := Y3_g4.2.2.2.2.2.2.2.2.2.2.1
theorem d1_66_0 : dB S1_66 0 S1_72 = true := Y3_g4.2.2.2.2.2.2.2.2.2.2.2.1
theorem d1_66_1 : dB S1_66 1 S1_72 = true := Y3_g4.2.2.2.2.2.2.2.2.2.2.2.2
set_option maxRecDepth 1000000 in
theorem Y3_g5 : (dB S1_66 2 S1_72 = true) ∧ (dB S1_66 3 S1_72 = true) ∧ (dB S1_66 4 S1_72 = true) ∧ (undB S1_67 4 = true) ∧ (dB S1_67 0 S1_72 = true) ∧ (dB S1_67 1 S1_73 = true) ∧ (dB S1_67 2 S1_73 = true) ∧ (dB S1_67 3 S1_73 = true) ∧ (undB S1_68 3 = true) ∧ (dB S1_68 0 S1_73 = true) := ⟨by kernel_rfl, by kernel_rfl, by kernel_rfl, by kernel_rfl, by kernel_rfl, by kernel_rfl, by kernel_rfl, by kernel_rfl, by kernel_rfl, by kernel_rfl⟩
theorem d1_66_2 : dB S1_66 2 S1_72 = true := Y3_g5.1
theorem d1_66_3 : dB S1_66 3 S1_72 = true := Y3_g5.2.1
theorem d1_66_4 : dB S1_66 4 S1_72 = true := Y3_g5.2.2.1
theorem u1_67 : undB S1_67 4 = true := Y3_g5.2.2.2.1
theorem d1_67_0 : dB S1_67 0 S1_72 = true := Y3_g5.2.2.2.2.1
theorem d1_67_1 : dB S1_67 1 S1_73 = true := Y3_g5.2.2.2.2.2.1
theorem d1_67_2 : dB S1_67 2 S1_73 = true := Y3_g5.2.2.2.2.2.2.1
theorem d1_67_3 : dB S1_67 3 S1_73 = true := Y3_g5.2.2.2.2.2.2.2.1
theorem u1_68 : undB S1_68 3 = true := Y3_g5.2.2.2.2.2.2.2.2.1
theorem d1_68_0 : dB S1_68 0 S1_73 = true := Y3_g5.2.2.2.2.2.2.2.2.2
set_option maxRecDepth 1000000 in
theorem Y3_g6 : (dB S1_68 1 S1_73 = true) ∧ (dB S1_68 2 S1_74 = true) ∧ (undB S1_69 0 = true) ∧ (undB S1_70 2 = true) ∧ (dB S1_70 0 S1_75 = true) ∧ (dB S1_70 1 S1_75 = true) ∧ (undB S1_71 1 = true) ∧ (dB S1_71 0 S1_75 = true) ∧ (undB S1_72 4 = true) ∧ (dB S1_72 0 S1_76 = true) ∧ (dB S1_72 1 S1_76 = true) ∧ (dB S1_72 2 S1_76 = true) := ⟨by kernel_rfl, by kernel_rfl, by kernel_rfl, by kernel_rfl, by kernel_rfl, by kernel_rfl, by kernel_rfl, by kernel_rfl, by kernel_rfl, by kernel_rfl, by kernel_rfl, by kernel_rfl⟩
theorem d1_68_1 : dB S1_68 1 S1_73 = true := Y3_g6.1
theorem d1_68_2 : dB S1_68 2 S1_74 = true := Y3_g6.2.1
theorem u1_69 : undB S1_69 0 = true := Y3_g6.2.2.1
theorem u1_70 : undB S1_70 2 = true := Y3_g6.2.2.2.1
theorem d1_70_0 : dB S1_70 0 S1_75 = true := Y3_g6.2.2.2.2.1
theorem d1_70_1 : dB S1_70 1 S1_75 = true := Y3_g6.2.2.2.2.2.1
theorem u1_71 : undB S1_71 1 = true := Y3_g6.2.2.2.2.2.2.1
theorem d1_71_0 : dB S1_71 0 S1_75 = true := Y3_g6.2.2.2.2.2.2.2.1
theorem u1_72 : undB S1_72 4 = true := Y3_g6.2.2.2.2.2.2.2.2.1
theorem d1_72_0 : dB S1_72 0 S1_76 = true := Y3_g6.2.2.2.2.2.2.2.2.2.1
theorem d1_72_1 : dB S1_72 1 S1_76 = true := Y3_g6.2.2.2.2.2.2.2.2.2.2.1
theorem d1_72_2 : dB S1_72 2 S1_76 = true := Y3_g6.2.2.2.2.2.2.2.2.2.2.2
set_option maxRecDepth 1000000 in
theorem Y3_g7 : (dB S1_72 3 S1_76 = true) ∧ (undB S1_73 3 = true) ∧ (dB S1_73 0 S1_76 = true) ∧ (dB S1_73 1 S1_77 = true) ∧ (dB S1_73 2 S1_77 = true) ∧ (undB S1_74 2 = true) ∧ (dB S1_74 0 S1_77 = true) ∧ (dB S1_74 1 S1_77 = true) ∧ (undB S1_75 1 = true) ∧ (dB S1_75 0 S1_78 = true) ∧ (undB S1_76 3 = true) := ⟨by kernel_rfl, by kernel_rfl, by kernel_rfl, by kernel_rfl, by kernel_rfl, by kernel_rfl, by kernel_rfl, by kernel_rfl, by kernel_rfl, by kernel_rfl, by kernel_rfl⟩
theorem d1_72_3 : dB S1_72 3 S1_76 = true := Y3_g7.1
theorem u1_73 : undB S1_73 3 = true := Y3_g7.2.1
theorem d1_73_0 : dB S1_73 0 S1_76 = true := Y3_g7.2.2.1
theorem d1_73_1 : dB S1_73 1 S1_77 = true := Y3_g7.2.2.2.1
theorem d1_73_2 : dB S1_73 2 S1_77 = true := Y3_g7.2.2.2.2.1
theorem u1_74 : undB S1_74 2 = true := Y3_g7.2.2.2.2.2.1
theorem d1_74_0 : dB S1_74 0 S1_77 = true := Y3_g7.2.2.2.2.2.2.1
theorem d1_74_1 : dB S1_74 1 S1_77 = true := Y3_g7.2.2.2.2.2.2.2.1
theorem u1_75 : undB S1_75 1 = true := Y3_g7.2.2.2.2.2.2.2.2.1
theorem d1_75_0 : dB S1_75 0 S1_78 = true := Y3_g7.2.2.2.2.2.2.2.2.2.1
theorem u1_76 : undB S1_76 3 = true := Y3_g7.2.2.2.2.2.2.2.2.2.2
set_option maxRecDepth 1000000 in
theorem Y3_g8 : (dB S1_76 0 S1_79 = true) ∧ (dB S1_76 1 S1_79 = true) ∧ (dB S1_76 2 S1_79 = true) ∧ (undB S1_77 2 = true) ∧ (dB S1_77 0 S1_79 = true) ∧ (dB S1_77 1 S1_80 = true) ∧ (undB S1_78 0 = true) ∧ (undB S1_79 2 = true) ∧ (dB S1_79 0 S1_81 = true) ∧ (dB S1_79 1 S1_81 = true) ∧ (undB S1_80 1 = true) ∧ (dB S1_80 0 S1_81 = true) ∧ (undB S1_81 1 = true) := ⟨by kernel_rfl, by kernel_rfl, by kernel_rfl, by kernel_rfl, by kernel_rfl, by kernel_rfl, by kernel_rfl, by kernel_rfl, by kernel_rfl, by kernel_rfl, by kernel_rfl, by kernel_rfl, by kernel_rfl⟩
theorem d1_76_0 : dB S1_76 0 S1_79 = true := Y3_g8.1
theorem d1_76_1 : dB S1_76 1 S1_79 = true := Y3_g8.2.1
theorem d1_76_2 : dB S1_76 2 S1_79 = true := Y3_g8.2.2.1
theorem u1_77 : undB S1_77 2 = true := Y3_g8.2.2.2.1
theorem d1_77_0 : dB S1_77 0 S1_79 = true := Y3_g8.2.2.2.2.1
theorem d1_77_1 : dB S1_77 1 S1_80 = true := Y3_g8.2.2.2.2.2.1
theorem u1_78 : undB S1_78 0 = true := Y3_g8.2.2.2.2.2.2.1
theorem u1_79 : undB S1_79 2 = true := Y3_g8.2.2.2.2.2.2.2.1
theorem d1_79_0 : dB S1_79 0 S1_81 = true := Y3_g8.2.2.2.2.2.2.2.2.1
theorem d1_79_1 : dB S1_79 1 S1_81 = true := Y3_g8.2.2.2.2.2.2.2.2.2.1
theorem u1_80 : undB S1_80 1 = true := Y3_g8.2.2.2.2.2.2.2.2.2.2.1
theorem d1_80_0 : dB S1_80 0 S1_81 = true := Y3_g8.2.2.2.2.2.2.2.2.2.2.2.1
theorem u1_81 : undB S1_81 1 = true := Y3_g8.2.2.2.2.2.2.2.2.2.2.2.2
set_option maxRecDepth 1000000 in
theorem Y3_g9 : (dB S1_81 0 S1_82 = true) ∧ (undB S1_82 0 = true) ∧ (tl 1 S1_12 = true) ∧ (tl 1 S1_32 = true) ∧ (tl 1 S1_53 = true) ∧ (tl 1 S1_69 = true) ∧ (tl 1 S1_78 = true) ∧ (tl 1 S1_82 = true) ∧ (eq2 9 D2 (numV 0) (numV 0) (.bool true) S2_0 = true) ∧ (eq2 9 S2_0 (numV 0) (numV 0) (.bool true) S2_1 = true) ∧ (eq2 9 S2_1 (numV 0) (numV 0) (.bool true) S2_2 = true) ∧ (eq2 9 S2_2 (numV 0) (numV 0) (.bool true) S2_3 = true) := ⟨by kernel_rfl, by kernel_rfl, by kernel_rfl, by kernel_rfl, by kernel_rfl, by kernel_rfl, by kernel_rfl, by kernel_rfl, by kernel_rfl, by kernel_rfl, by kernel_rfl, by kernel_rfl⟩
theorem d1_81_0 : dB S1_81 0 S1_82 = true := Y3_g9.1
theorem u1_82 : undB S1_82 0 = true := Y3_g9.2.1
theorem t1_12 : tl 1 S1_12 = true := Y3_g9.2.2.1
theorem t1_32 : tl 1 S1_32 = true := Y3_g9.2.2.2.1
theorem t1_53 : tl 1 S1_53 = true := Y3_g9.2.2.2.2.1
theorem t1_69 : tl 1 S1_69 = true := Y3_g9.2.2.2.2.2.1
theorem t1_78 : tl 1 S1_78 = true := Y3_g9.2.2.2.2.2.2.1
theorem t1_82 : tl 1 S1_82 = true := Y3_g9.2.2.2.2.2.2.2.1
theorem se2_0 : eq2 9 D2 (numV 0) (numV 0) (.bool true) S2_0 = true := Y3_g9.2.2.2.2.2.2.2.2.1
theorem se2_1 : eq2 9 S2_0 (numV 0) (numV 0) (.bool true) S2_1 = true := Y3_g9.2.2.2.2.2.2.2.2.2.1
theorem se2_2 : eq2 9 S2_1 (numV 0) (numV 0) (.bool true) S2_2 = true := Y3_g9.2.2.2.2.2.2.2.2.2.2.1
theorem se2_3 : eq2 9 S2_2 (numV 0) (numV 0) (.bool true) S2_3 = true := Y3_g9.2.2.2.2.2.2.2.2.2.2.2

end Go.Proofs.YtaceajadklmddaaGreat
