/- The law WorldTwice: what happens (19). -/
import Derived.Test.YtaceajadklmddaaGreatXn0
namespace Go.Proofs.YtaceajadklmddaaGreat
open Go Go.Cx Go.RowKit

set_option maxRecDepth 1000000 in
theorem Y19_g0 : (dB S4_52 3 S4_62 = true) ∧ (undB S4_53 0 = true) ∧ (undB S4_54 2 = true) ∧ (dB S4_54 0 S4_63 = true) ∧ (dB S4_54 1 S4_63 = true) ∧ (undB S4_55 1 = true) ∧ (dB S4_55 0 S4_63 = true) ∧ (undB S4_56 4 = true) ∧ (dB S4_56 0 S4_64 = true) ∧ (dB S4_56 1 S4_64 = true) := ⟨by kernel_rfl, by kernel_rfl, by kernel_rfl, by kernel_rfl, by kernel_rfl, by kernel_rfl, by kernel_rfl, by kernel_rfl, by kernel_rfl, by kernel_rfl⟩
theorem d4_52_3 : dB S4_52 3 S4_62 = true := Y19_g0.1
theorem u4_53 : undB S4_53 0 = true := Y19_g0.2.1
theorem u4_54 : undB S4_54 2 = true := Y19_g0.2.2.1
theorem d4_54_0 : dB S4_54 0 S4_63 = true := Y19_g0.2.2.2.1
theorem d4_54_1 : dB S4_54 1 S4_63 = true := Y19_g0.2.2.2.2.1
theorem u4_55 : undB S4_55 1 = true := Y19_g0.2.2.2.2.2.1
theorem d4_55_0 : dB S4_55 0 S4_63 = true := Y19_g0.2.2.2.2.2.2.1
theorem u4_56 : undB S4_56 4 = true := Y19_g0.2.2.2.2.2.2.2.1
theorem d4_56_0 : dB S4_56 0 S4_64 = true := Y19_g0.2.2.2.2.2.2.2.2.1
theorem d4_56_1 : dB S4_56 1 S4_64 = true := Y19_g0.2.2.2.2.2.2.2.2.2
set_option maxRecDepth 1000000 in
theorem Y19_g1 : (dB S4_56 2 S4_64 = true) ∧ (dB S4_56 3 S4_64 = true) ∧ (undB S4_57 3 = true) ∧ (dB S4_57 0 S4_64 = true) ∧ (dB S4_57 1 S4_65 = true) ∧ (dB S4_57 2 S4_65 = true) ∧ (undB S4_58 2 = true) := ⟨by kernel_rfl, by kernel_rfl, by kernel_rfl, by kernel_rfl, by kernel_rfl, by kernel_rfl, by kernel_rfl⟩
theorem d4_56_2 : dB S4_56 2 S4_64 = true := Y19_g1.1
theorem d4_56_3 : dB S4_56 3 S4_64 = true := Y19_g1.2.1
theorem u4_57 : undB S4_57 3 = true := Y19_g1.2.2.1
theorem d4_57_0 : dB S4_57 0 S4_64 = true := Y19_g1.2.2.2.1
theorem d4_57_1 : dB S4_57 1 S4_65 = true := Y19_g1.2.2.2.2.1
theorem d4_57_2 : dB S4_57 2 S4_65 = true := Y19_g1.2.2.2.2.2.1
theorem u4_58 : undB S4_58 2 = true := Y19_g1.2.2.2.2.2.2
set_option maxRecDepth 1000000 in
theorem Y19_g2 : (dB S4_58 0 S4_65 = true) ∧ (dB S4_58 1 S4_65 = true) ∧ (undB S4_59 6 = true) ∧ (dB S4_59 0 S4_66 = true) ∧ (dB S4_59 1 S4_66 = true) := ⟨by kernel_rfl, by kernel_rfl, by kernel_rfl, by kernel_rfl, by kernel_rfl⟩
theorem d4_58_0 : dB S4_58 0 S4_65 = true := Y19_g2.1
theorem d4_58_1 : dB S4_58 1 S4_65 = true := Y19_g2.2.1
theorem u4_59 : undB S4_59 6 = true := Y19_g2.2.2.1
theorem d4_59_0 : dB S4_59 0 S4_66 = true := Y19_g2.2.2.2.1
theorem d4_59_1 : dB S4_59 1 S4_66 = true := Y19_g2.2.2.2.2
set_option maxRecDepth 1000000 in
theorem Y19_g3 : (dB S4_59 2 S4_66 = true) ∧ (dB S4_59 3 S4_66 = true) ∧ (dB S4_59 4 S4_66 = true) ∧ (dB S4_59 5 S4_66 = true) ∧ (undB S4_60 5 = true) ∧ (dB S4_60 0 S4_66 = true) ∧ (dB S4_60 1 S4_67 = true) := ⟨by kernel_rfl, by kernel_rfl, by kernel_rfl, by kernel_rfl, by kernel_rfl, by kernel_rfl, by kernel_rfl⟩
theorem d4_59_2 : dB S4_59 2 S4_66 = true := Y19_g3.1
theorem d4_59_3 : dB S4_59 3 S4_66 = true := Y19_g3.2.1
theorem d4_59_4 : dB S4_59 4 S4_66 = true := Y19_g3.2.2.1
theorem d4_59_5 : dB S4_59 5 S4_66 = true := Y19_g3.2.2.2.1
theorem u4_60 : undB S4_60 5 = true := Y19_g3.2.2.2.2.1
theorem d4_60_0 : dB S4_60 0 S4_66 = true := Y19_g3.2.2.2.2.2.1
theorem d4_60_1 : dB S4_60 1 S4_67 = true := Y19_g3.2.2.2.2.2.2
set_option maxRecDepth 1000000 in
theorem Y19_g4 : (dB S4_60 2 S4_67 = true) ∧ (dB S4_60 3 S4_67 = true) ∧ (dB S4_60 4 S4_67 = true) ∧ (undB S4_61 4 = true) ∧ (dB S4_61 0 S4_67 = true) := ⟨by kernel_rfl, by kernel_rfl, by kernel_rfl, by kernel_rfl, by kernel_rfl⟩
theorem d4_60_2 : dB S4_60 2 S4_67 = true := Y19_g4.1
theorem d4_60_3 : dB S4_60 3 S4_67 = true := Y19_g4.2.1
theorem d4_60_4 : dB S4_60 4 S4_67 = true := Y19_g4.2.2.1
theorem u4_61 : undB S4_61 4 = true := Y19_g4.2.2.2.1
theorem d4_61_0 : dB S4_61 0 S4_67 = true := Y19_g4.2.2.2.2
set_option maxRecDepth 1000000 in
theorem Y19_g5 : (dB S4_61 1 S4_67 = true) ∧ (dB S4_61 2 S4_68 = true) ∧ (dB S4_61 3 S4_68 = true) ∧ (undB S4_62 3 = true) ∧ (dB S4_62 0 S4_68 = true) := ⟨by kernel_rfl, by kernel_rfl, by kernel_rfl, by kernel_rfl, by kernel_rfl⟩
theorem d4_61_1 : dB S4_61 1 S4_67 = true := Y19_g5.1
theorem d4_61_2 : dB S4_61 2 S4_68 = true := Y19_g5.2.1
theorem d4_61_3 : dB S4_61 3 S4_68 = true := Y19_g5.2.2.1
theorem u4_62 : undB S4_62 3 = true := Y19_g5.2.2.2.1
theorem d4_62_0 : dB S4_62 0 S4_68 = true := Y19_g5.2.2.2.2
set_option maxRecDepth 1000000 in
theorem Y19_g6 : (dB S4_62 1 S4_68 = true) ∧ (dB S4_62 2 S4_68 = true) ∧ (undB S4_63 1 = true) ∧ (dB S4_63 0 S4_69 = true) ∧ (undB S4_64 3 = true) ∧ (dB S4_64 0 S4_70 = true) := ⟨by kernel_rfl, by kernel_rfl, by kernel_rfl, by kernel_rfl, by kernel_rfl, by kernel_rfl⟩
theorem d4_62_1 : dB S4_62 1 S4_68 = true := Y19_g6.1
theorem d4_62_2 : dB S4_62 2 S4_68 = true := Y19_g6.2.1
theorem u4_63 : undB S4_63 1 = true := Y19_g6.2.2.1
theorem d4_63_0 : dB S4_63 0 S4_69 = true := Y19_g6.2.2.2.1
theorem u4_64 : undB S4_64 3 = true := Y19_g6.2.2.2.2.1
theorem d4_64_0 : dB S4_64 0 S4_70 = true := Y19_g6.2.2.2.2.2
set_option maxRecDepth 1000000 in
theorem Y19_g7 : (dB S4_64 1 S4_70 = true) ∧ (dB S4_64 2 S4_70 = true) ∧ (undB S4_65 2 = true) ∧ (dB S4_65 0 S4_70 = true) ∧ (dB S4_65 1 S4_71 = true) ∧ (undB S4_66 5 = true) ∧ (dB S4_66 0 S4_72 = true) ∧ (dB S4_66 1 S4_72 = true) := ⟨by kernel_rfl, by kernel_rfl, by kernel_rfl, by kernel_rfl, by kernel_rfl, by kernel_rfl, by kernel_rfl, by kernel_rfl⟩
theorem d4_64_1 : dB S4_64 1 S4_70 = true := Y19_g7.1
theorem d4_64_2 : dB S4_64 2 S4_70 = true := Y19_g7.2.1
theorem u4_65 : undB S4_65 2 = true := Y19_g7.2.2.1
theorem d4_65_0 : dB S4_65 0 S4_70 = true := Y19_g7.2.2.2.1
theorem d4_65_1 : dB S4_65 1 S4_71 = true := Y19_g7.2.2.2.2.1
theorem u4_66 : undB S4_66 5 = true := Y19_g7.2.2.2.2.2.1
theorem d4_66_0 : dB S4_66 0 S4_72 = true := Y19_g7.2.2.2.2.2.2.1
theorem d4_66_1 : dB S4_66 1 S4_72 = true := Y19_g7.2.2.2.2.2.2.2
set_option maxRecDepth 1000000 in
theorem Y19_g8 : (dB S4_66 2 S4_72 = true) ∧ (dB S4_66 3 S4_72 = true) ∧ (dB S4_66 4 S4_72 = true) ∧ (undB S4_67 4 = true) ∧ (dB S4_67 0 S4_72 = true) ∧ (dB S4_67 1 S4_73 = true) ∧ (dB S4_67 2 S4_73 = true) := ⟨by kernel_rfl, by kernel_rfl, by kernel_rfl, by kernel_rfl, by kernel_rfl, by kernel_rfl, by kernel_rfl⟩
theorem d4_66_2 : dB S4_66 2 S4_72 = true := Y19_g8.1
theorem d4_66_3 : dB S4_66 3 S4_72 = true := Y19_g8.2.1
theorem d4_66_4 : dB S4_66 4 S4_72 = true := Y19_g8.2.2.1
theorem u4_67 : undB S4_67 4 = true := Y19_g8.2.2.2.1
theorem d4_67_0 : dB S4_67 0 S4_72 = true := Y19_g8.2.2.2.2.1
theorem d4_67_1 : dB S4_67 1 S4_73 = true := Y19_g8.2.2.2.2.2.1
theorem d4_67_2 : dB S4_67 2 S4_73 = true := Y19_g8.2.2.2.2.2.2
set_option maxRecDepth 1000000 in
theorem Y19_g9 : (dB S4_67 3 S4_73 = true) ∧ (undB S4_68 3 = true) ∧ (dB S4_68 0 S4_73 = true) ∧ (dB S4_68 1 S4_73 = true) ∧ (dB S4_68 2 S4_74 = true) ∧ (undB S4_69 0 = true) ∧ (undB S4_70 2 = true) := ⟨by kernel_rfl, by kernel_rfl, by kernel_rfl, by kernel_rfl, by kernel_rfl, by kernel_rfl, by kernel_rfl⟩
theorem d4_67_3 : dB S4_67 3 S4_73 = true := Y19_g9.1
theorem u4_68 : undB S4_68 3 = true := Y19_g9.2.1
theorem d4_68_0 : dB S4_68 0 S4_73 = true := Y19_g9.2.2.1
theorem d4_68_1 : dB S4_68 1 S4_73 = true := Y19_g9.2.2.2.1
theorem d4_68_2 : dB S4_68 2 S4_74 = true := Y19_g9.2.2.2.2.1
theorem u4_69 : undB S4_69 0 = true := Y19_g9.2.2.2.2.2.1
theorem u4_70 : undB S4_70 2 = true := Y19_g9.2.2.2.2.2.2
set_option maxRecDepth 1000000 in
theorem Y19_g10 : (dB S4_70 0 S4_75 = true) ∧ (dB S4_70 1 S4_75 = true) ∧ (undB S4_71 1 = true) := ⟨by kernel_rfl, by kernel_rfl, by kernel_rfl⟩
theorem d4_70_0 : dB S4_70 0 S4_75 = true := Y19_g10.1
theorem d4_70_1 : dB S4_70 1 S4_75 = true := Y19_g10.2.1
theorem u4_71 : undB S4_71 1 = true := Y19_g10.2.2

end Go.Proofs.YtaceajadklmddaaGreat
