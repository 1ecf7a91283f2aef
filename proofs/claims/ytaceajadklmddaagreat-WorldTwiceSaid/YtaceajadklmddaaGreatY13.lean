/- The law WorldTwice: what happens (13). -/
import Derived.Test.YtaceajadklmddaaGreatXn0
namespace Go.Proofs.YtaceajadklmddaaGreat
open Go Go.Cx Go.RowKit

set_option maxRecDepth 1000000 in
theorem Y13_g0 : (dB S3_57 1 S3_65 = true) ∧ (dB S3_57 2 S3_65 = true) ∧ (undB S3_58 2 = true) ∧ (dB S3_58 0 S3_65 = true) ∧ (dB S3_58 1 S3_65 = true) ∧ (undB S3_59 6 = true) ∧ (dB S3_59 0 S3_66 = true) := ⟨by kernel_rfl, by kernel_rfl, by kernel_rfl, by kernel_rfl, by kernel_rfl, by kernel_rfl, by kernel_rfl⟩
theorem d3_57_1 : dB S3_57 1 S3_65 = true := Y13_g0.1
theorem d3_57_2 : dB S3_57 2 S3_65 = true := Y13_g0.2.1
theorem u3_58 : undB S3_58 2 = true := Y13_g0.2.2.1
theorem d3_58_0 : dB S3_58 0 S3_65 = true := Y13_g0.2.2.2.1
theorem d3_58_1 : dB S3_58 1 S3_65 = true := Y13_g0.2.2.2.2.1
theorem u3_59 : undB S3_59 6 = true := Y13_g0.2.2.2.2.2.1
theorem d3_59_0 : dB S3_59 0 S3_66 = true := Y13_g0.2.2.2.2.2.2
set_option maxRecDepth 1000000 in
theorem Y13_g1 : (dB S3_59 1 S3_66 = true) ∧ (dB S3_59 2 S3_66 = true) ∧ (dB S3_59 3 S3_66 = true) ∧ (dB S3_59 4 S3_66 = true) ∧ (dB S3_59 5 S3_66 = true) ∧ (undB S3_60 5 = true) ∧ (dB S3_60 0 S3_66 = true) ∧ (dB S3_60 1 S3_67 = true) := ⟨by kernel_rfl, by kernel_rfl, by kernel_rfl, by kernel_rfl, by kernel_rfl, by kernel_rfl, by kernel_rfl, by kernel_rfl⟩
theorem d3_59_1 : dB S3_59 1 S3_66 = true := Y13_g1.1
theorem d3_59_2 : dB S3_59 2 S3_66 = true := Y13_g1.2.1
theorem d3_59_3 : dB S3_59 3 S3_66 = true := Y13_g1.2.2.1
theorem d3_59_4 : dB S3_59 4 S3_66 = true := Y13_g1.2.2.2.1
theorem d3_59_5 : dB S3_59 5 S3_66 = true := Y13_g1.2.2.2.2.1
theorem u3_60 : undB S3_60 5 = true := Y13_g1.2.2.2.2.2.1
theorem d3_60_0 : dB S3_60 0 S3_66 = true := Y13_g1.2.2.2.2.2.2.1
theorem d3_60_1 : dB S3_60 1 S3_67 = true := Y13_g1.2.2.2.2.2.2.2
set_option maxRecDepth 1000000 in
theorem Y13_g2 : (dB S3_60 2 S3_67 = true) ∧ (dB S3_60 3 S3_67 = true) ∧ (dB S3_60 4 S3_67 = true) ∧ (undB S3_61 4 = true) ∧ (dB S3_61 0 S3_67 = true) ∧ (dB S3_61 1 S3_67 = true) ∧ (dB S3_61 2 S3_68 = true) := ⟨by kernel_rfl, by kernel_rfl, by kernel_rfl, by kernel_rfl, by kernel_rfl, by kernel_rfl, by kernel_rfl⟩
theorem d3_60_2 : dB S3_60 2 S3_67 = true := Y13_g2.1
theorem d3_60_3 : dB S3_60 3 S3_67 = true := Y13_g2.2.1
theorem d3_60_4 : dB S3_60 4 S3_67 = true := Y13_g2.2.2.1
theorem u3_61 : undB S3_61 4 = true := Y13_g2.2.2.2.1
theorem d3_61_0 : dB S3_61 0 S3_67 = true := Y13_g2.2.2.2.2.1
theorem d3_61_1 : dB S3_61 1 S3_67 = true := Y13_g2.2.2.2.2.2.1
theorem d3_61_2 : dB S3_61 2 S3_68 = true := Y13_g2.2.2.2.2.2.2
set_option maxRecDepth 1000000 in
theorem Y13_g3 : (dB S3_61 3 S3_68 = true) ∧ (undB S3_62 3 = true) ∧ (dB S3_62 0 S3_68 = true) ∧ (dB S3_62 1 S3_68 = true) ∧ (dB S3_62 2 S3_68 = true) ∧ (undB S3_63 1 = true) := ⟨by kernel_rfl, by kernel_rfl, by kernel_rfl, by kernel_rfl, by kernel_rfl, by kernel_rfl⟩
theorem d3_61_3 : dB S3_61 3 S3_68 = true := Y13_g3.1
theorem u3_62 : undB S3_62 3 = true := Y13_g3.2.1
theorem d3_62_0 : dB S3_62 0 S3_68 = true := Y13_g3.2.2.1
theorem d3_62_1 : dB S3_62 1 S3_68 = true := Y13_g3.2.2.2.1
theorem d3_62_2 : dB S3_62 2 S3_68 = true := Y13_g3.2.2.2.2.1
theorem u3_63 : undB S3_63 1 = true := Y13_g3.2.2.2.2.2
set_option maxRecDepth 1000000 in
theorem Y13_g4 : (dB S3_63 0 S3_69 = true) ∧ (undB S3_64 3 = true) ∧ (dB S3_64 0 S3_70 = true) ∧ (dB S3_64 1 S3_70 = true) ∧ (dB S3_64 2 S3_70 = true) ∧ (undB S3_65 2 = true) ∧ (dB S3_65 0 S3_70 = true) ∧ (dB S3_65 1 S3_71 = true) ∧ (undB S3_66 5 = true) ∧ (dB S3_66 0 S3_72 = true) := ⟨by kernel_rfl, by kernel_rfl, by kernel_rfl, by kernel_rfl, by kernel_rfl, by kernel_rfl, by kernel_rfl, by kernel_rfl, by kernel_rfl, by kernel_rfl⟩
theorem d3_63_0 : dB S3_63 0 S3_69 = true := Y13_g4.1
theorem u3_64 : undB S3_64 3 = true := Y13_g4.2.1
theorem d3_64_0 : dB S3_64 0 S3_70 = true := Y13_g4.2.2.1
theorem d3_64_1 : dB S3_64 1 S3_70 = true := Y13_g4.2.2.2.1
theorem d3_64_2 : dB S3_64 2 S3_70 = true := Y13_g4.2.2.2.2.1
theorem u3_65 : undB S3_65 2 = true := Y13_g4.2.2.2.2.2.1
theorem d3_65_0 : dB S3_65 0 S3_70 = true := Y13_g4.2.2.2.2.2.2.1
theorem d3_65_1 : dB S3_65 1 S3_71 = true := Y13_g4.2.2.2.2.2.2.2.1
theorem u3_66 : undB S3_66 5 = true := Y13_g4.2.2.2.2.2.2.2.2.1
theorem d3_66_0 : dB S3_66 0 S3_72 = true := Y13_g4.2.2.2.2.2.2.2.2.2
set_option maxRecDepth 1000000 in
theorem Y13_g5 : (dB S3_66 1 S3_72 = true) ∧ (dB S3_66 2 S3_72 = true) ∧ (dB S3_66 3 S3_72 = true) ∧ (dB S3_66 4 S3_72 = true) ∧ (undB S3_67 4 = true) ∧ (dB S3_67 0 S3_72 = true) ∧ (dB S3_67 1 S3_73 = true) ∧ (dB S3_67 2 S3_73 = true) := ⟨by kernel_rfl, by kernel_rfl, by kernel_rfl, by kernel_rfl, by kernel_rfl, by kernel_rfl, by kernel_rfl, by kernel_rfl⟩
theorem d3_66_1 : dB S3_66 1 S3_72 = true := Y13_g5.1
theorem d3_66_2 : dB S3_66 2 S3_72 = true := Y13_g5.2.1
theorem d3_66_3 : dB S3_66 3 S3_72 = true := Y13_g5.2.2.1
theorem d3_66_4 : dB S3_66 4 S3_72 = true := Y13_g5.2.2.2.1
theorem u3_67 : undB S3_67 4 = true := Y13_g5.2.2.2.2.1
theorem d3_67_0 : dB S3_67 0 S3_72 = true := Y13_g5.2.2.2.2.2.1
theorem d3_67_1 : dB S3_67 1 S3_73 = true := Y13_g5.2.2.2.2.2.2.1
theorem d3_67_2 : dB S3_67 2 S3_73 = true := Y13_g5.2.2.2.2.2.2.2
set_option maxRecDepth 1000000 in
theorem Y13_g6 : (dB S3_67 3 S3_73 = true) ∧ (undB S3_68 3 = true) ∧ (dB S3_68 0 S3_73 = true) ∧ (dB S3_68 1 S3_73 = true) ∧ (dB S3_68 2 S3_74 = true) ∧ (undB S3_69 0 = true) ∧ (undB S3_70 2 = true) ∧ (dB S3_70 0 S3_75 = true) := ⟨by kernel_rfl, by kernel_rfl, by kernel_rfl, by kernel_rfl, by kernel_rfl, by kernel_rfl, by kernel_rfl, by kernel_rfl⟩
theorem d3_67_3 : dB S3_67 3 S3_73 = true := Y13_g6.1
theorem u3_68 : undB S3_68 3 = true := Y13_g6.2.1
theorem d3_68_0 : dB S3_68 0 S3_73 = true := Y13_g6.2.2.1
theorem d3_68_1 : dB S3_68 1 S3_73 = true := Y13_g6.2.2.2.1
theorem d3_68_2 : dB S3_68 2 S3_74 = true := Y13_g6.2.2.2.2.1
theorem u3_69 : undB S3_69 0 = true := Y13_g6.2.2.2.2.2.1
theorem u3_70 : undB S3_70 2 = true := Y13_g6.2.2.2.2.2.2.1
theorem d3_70_0 : dB S3_70 0 S3_75 = true := Y13_g6.2.2.2.2.2.2.2
set_option maxRecDepth 1000000 in
theorem Y13_g7 : (dB S3_70 1 S3_75 = true) ∧ (undB S3_71 1 = true) ∧ (dB S3_71 0 S3_75 = true) ∧ (undB S3_72 4 = true) ∧ (dB S3_72 0 S3_76 = true) ∧ (dB S3_72 1 S3_76 = true) ∧ (dB S3_72 2 S3_76 = true) ∧ (dB S3_72 3 S3_76 = true) ∧ (undB S3_73 3 = true) := ⟨by kernel_rfl, by kernel_rfl, by kernel_rfl, by kernel_rfl, by kernel_rfl, by kernel_rfl, by kernel_rfl, by kernel_rfl, by kernel_rfl⟩
theorem d3_70_1 : dB S3_70 1 S3_75 = true := Y13_g7.1
theorem u3_71 : undB S3_71 1 = true := Y13_g7.2.1
theorem d3_71_0 : dB S3_71 0 S3_75 = true := Y13_g7.2.2.1
theorem u3_72 : undB S3_72 4 = true := Y13_g7.2.2.2.1
theorem d3_72_0 : dB S3_72 0 S3_76 = true := Y13_g7.2.2.2.2.1
theorem d3_72_1 : dB S3_72 1 S3_76 = true := Y13_g7.2.2.2.2.2.1
theorem d3_72_2 : dB S3_72 2 S3_76 = true := Y13_g7.2.2.2.2.2.2.1
theorem d3_72_3 : dB S3_72 3 S3_76 = true := Y13_g7.2.2.2.2.2.2.2.1
theorem u3_73 : undB S3_73 3 = true := Y13_g7.2.2.2.2.2.2.2.2
set_option maxRecDepth 1000000 in
theorem Y13_g8 : (dB S3_73 0 S3_76 = true) ∧ (dB S3_73 1 S3_77 = true) ∧ (dB S3_73 2 S3_77 = true) ∧ (undB S3_74 2 = true) ∧ (dB S3_74 0 S3_77 = true) := ⟨by kernel_rfl, by kernel_rfl, by kernel_rfl, by kernel_rfl, by kernel_rfl⟩
theorem d3_73_0 : dB S3_73 0 S3_76 = true := Y13_g8.1
theorem d3_73_1 : dB S3_73 1 S3_77 = true := Y13_g8.2.1
theorem d3_73_2 : dB S3_73 2 S3_77 = true := Y13_g8.2.2.1
theorem u3_74 : undB S3_74 2 = true := Y13_g8.2.2.2.1
theorem d3_74_0 : dB S3_74 0 S3_77 = true := Y13_g8.2.2.2.2
set_option maxRecDepth 1000000 in
theorem Y13_g9 : (dB S3_74 1 S3_77 = true) ∧ (undB S3_75 1 = true) ∧ (dB S3_75 0 S3_78 = true) ∧ (undB S3_76 3 = true) ∧ (dB S3_76 0 S3_79 = true) ∧ (dB S3_76 1 S3_79 = true) ∧ (dB S3_76 2 S3_79 = true) ∧ (undB S3_77 2 = true) := ⟨by kernel_rfl, by kernel_rfl, by kernel_rfl, by kernel_rfl, by kernel_rfl, by kernel_rfl, by kernel_rfl, by kernel_rfl⟩
theorem d3_74_1 : dB S3_74 1 S3_77 = true := Y13_g9.1
theorem u3_75 : undB S3_75 1 = true := Y13_g9.2.1
theorem d3_75_0 : dB S3_75 0 S3_78 = true := Y13_g9.2.2.1
theorem u3_76 : undB S3_76 3 = true := Y13_g9.2.2.2.1
theorem d3_76_0 : dB S3_76 0 S3_79 = true := Y13_g9.2.2.2.2.1
theorem d3_76_1 : dB S3_76 1 S3_79 = true := Y13_g9.2.2.2.2.2.1
theorem d3_76_2 : dB S3_76 2 S3_79 = true := Y13_g9.2.2.2.2.2.2.1
theorem u3_77 : undB S3_77 2 = true := Y13_g9.2.2.2.2.2.2.2

end Go.Proofs.YtaceajadklmddaaGreat
