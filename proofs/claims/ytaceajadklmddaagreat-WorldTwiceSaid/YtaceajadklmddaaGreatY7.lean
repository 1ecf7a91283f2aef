/- The law WorldTwice: what happens (7). -/
import Derived.Test.YtaceajadklmddaaGreatXn0
namespace Go.Proofs.YtaceajadklmddaaGreat
open Go Go.Cx Go.RowKit

set_option maxRecDepth 1000000 in
theorem Y7_g0 : (dB S2_43 2 S2_52 = true) ∧ (dB S2_43 3 S2_52 = true) ∧ (undB S2_44 1 = true) ∧ (dB S2_44 0 S2_53 = true) ∧ (undB S2_45 3 = true) ∧ (dB S2_45 0 S2_54 = true) ∧ (dB S2_45 1 S2_54 = true) ∧ (dB S2_45 2 S2_54 = true) ∧ (undB S2_46 2 = true) := ⟨by kernel_rfl, by kernel_rfl, by kernel_rfl, by kernel_rfl, by kernel_rfl, by kernel_rfl, by kernel_rfl, by kernel_rfl, by kernel_rfl⟩
theorem d2_43_2 : dB S2_43 2 S2_52 = true := Y7_g0.1
theorem d2_43_3 : dB S2_43 3 S2_52 = true := Y7_g0.2.1
theorem u2_44 : undB S2_44 1 = true := Y7_g0.2.2.1
theorem d2_44_0 : dB S2_44 0 S2_53 = true := Y7_g0.2.2.2.1
theorem u2_45 : undB S2_45 3 = true := Y7_g0.2.2.2.2.1
theorem d2_45_0 : dB S2_45 0 S2_54 = true := Y7_g0.2.2.2.2.2.1
theorem d2_45_1 : dB S2_45 1 S2_54 = true := Y7_g0.2.2.2.2.2.2.1
theorem d2_45_2 : dB S2_45 2 S2_54 = true := Y7_g0.2.2.2.2.2.2.2.1
theorem u2_46 : undB S2_46 2 = true := Y7_g0.2.2.2.2.2.2.2.2
set_option maxRecDepth 1000000 in
theorem Y7_g1 : (dB S2_46 0 S2_54 = true) ∧ (dB S2_46 1 S2_55 = true) ∧ (undB S2_47 5 = true) ∧ (dB S2_47 0 S2_56 = true) ∧ (dB S2_47 1 S2_56 = true) ∧ (dB S2_47 2 S2_56 = true) ∧ (dB S2_47 3 S2_56 = true) ∧ (dB S2_47 4 S2_56 = true) ∧ (undB S2_48 4 = true) := ⟨by kernel_rfl, by kernel_rfl, by kernel_rfl, by kernel_rfl, by kernel_rfl, by kernel_rfl, by kernel_rfl, by kernel_rfl, by kernel_rfl⟩
theorem d2_46_0 : dB S2_46 0 S2_54 = true := Y7_g1.1
theorem d2_46_1 : dB S2_46 1 S2_55 = true := Y7_g1.2.1
theorem u2_47 : undB S2_47 5 = true := Y7_g1.2.2.1
theorem d2_47_0 : dB S2_47 0 S2_56 = true := Y7_g1.2.2.2.1
theorem d2_47_1 : dB S2_47 1 S2_56 = true := Y7_g1.2.2.2.2.1
theorem d2_47_2 : dB S2_47 2 S2_56 = true := Y7_g1.2.2.2.2.2.1
theorem d2_47_3 : dB S2_47 3 S2_56 = true := Y7_g1.2.2.2.2.2.2.1
theorem d2_47_4 : dB S2_47 4 S2_56 = true := Y7_g1.2.2.2.2.2.2.2.1
theorem u2_48 : undB S2_48 4 = true := Y7_g1.2.2.2.2.2.2.2.2
set_option maxRecDepth 1000000 in
theorem Y7_g2 : (dB S2_48 0 S2_56 = true) ∧ (dB S2_48 1 S2_57 = true) ∧ (dB S2_48 2 S2_57 = true) ∧ (dB S2_48 3 S2_57 = true) ∧ (undB S2_49 3 = true) ∧ (dB S2_49 0 S2_57 = true) ∧ (dB S2_49 1 S2_57 = true) := ⟨by kernel_rfl, by kernel_rfl, by kernel_rfl, by kernel_rfl, by kernel_rfl, by kernel_rfl, by kernel_rfl⟩
theorem d2_48_0 : dB S2_48 0 S2_56 = true := Y7_g2.1
theorem d2_48_1 : dB S2_48 1 S2_57 = true := Y7_g2.2.1
theorem d2_48_2 : dB S2_48 2 S2_57 = true := Y7_g2.2.2.1
theorem d2_48_3 : dB S2_48 3 S2_57 = true := Y7_g2.2.2.2.1
theorem u2_49 : undB S2_49 3 = true := Y7_g2.2.2.2.2.1
theorem d2_49_0 : dB S2_49 0 S2_57 = true := Y7_g2.2.2.2.2.2.1
theorem d2_49_1 : dB S2_49 1 S2_57 = true := Y7_g2.2.2.2.2.2.2
set_option maxRecDepth 1000000 in
theorem Y7_g3 : (dB S2_49 2 S2_58 = true) ∧ (undB S2_50 6 = true) ∧ (dB S2_50 0 S2_59 = true) ∧ (dB S2_50 1 S2_60 = true) ∧ (dB S2_50 2 S2_60 = true) ∧ (dB S2_50 3 S2_60 = true) ∧ (dB S2_50 4 S2_60 = true) ∧ (dB S2_50 5 S2_60 = true) ∧ (undB S2_51 5 = true) := ⟨by kernel_rfl, by kernel_rfl, by kernel_rfl, by kernel_rfl, by kernel_rfl, by kernel_rfl, by kernel_rfl, by kernel_rfl, by kernel_rfl⟩
theorem d2_49_2 : dB S2_49 2 S2_58 = true := Y7_g3.1
theorem u2_50 : undB S2_50 6 = true := Y7_g3.2.1
theorem d2_50_0 : dB S2_50 0 S2_59 = true := Y7_g3.2.2.1
theorem d2_50_1 : dB S2_50 1 S2_60 = true := Y7_g3.2.2.2.1
theorem d2_50_2 : dB S2_50 2 S2_60 = true := Y7_g3.2.2.2.2.1
theorem d2_50_3 : dB S2_50 3 S2_60 = true := Y7_g3.2.2.2.2.2.1
theorem d2_50_4 : dB S2_50 4 S2_60 = true := Y7_g3.2.2.2.2.2.2.1
theorem d2_50_5 : dB S2_50 5 S2_60 = true := Y7_g3.2.2.2.2.2.2.2.1
theorem u2_51 : undB S2_51 5 = true := Y7_g3.2.2.2.2.2.2.2.2
set_option maxRecDepth 1000000 in
theorem Y7_g4 : (dB S2_51 0 S2_60 = true) ∧ (dB S2_51 1 S2_60 = true) ∧ (dB S2_51 2 S2_61 = true) ∧ (dB S2_51 3 S2_61 = true) ∧ (dB S2_51 4 S2_61 = true) ∧ (undB S2_52 4 = true) := ⟨by kernel_rfl, by kernel_rfl, by kernel_rfl, by kernel_rfl, by kernel_rfl, by kernel_rfl⟩
theorem d2_51_0 : dB S2_51 0 S2_60 = true := Y7_g4.1
theorem d2_51_1 : dB S2_51 1 S2_60 = true := Y7_g4.2.1
theorem d2_51_2 : dB S2_51 2 S2_61 = true := Y7_g4.2.2.1
theorem d2_51_3 : dB S2_51 3 S2_61 = true := Y7_g4.2.2.2.1
theorem d2_51_4 : dB S2_51 4 S2_61 = true := Y7_g4.2.2.2.2.1
theorem u2_52 : undB S2_52 4 = true := Y7_g4.2.2.2.2.2
set_option maxRecDepth 1000000 in
theorem Y7_g5 : (dB S2_52 0 S2_61 = true) ∧ (dB S2_52 1 S2_61 = true) ∧ (dB S2_52 2 S2_61 = true) ∧ (dB S2_52 3 S2_62 = true) ∧ (undB S2_53 0 = true) ∧ (undB S2_54 2 = true) ∧ (dB S2_54 0 S2_63 = true) ∧ (dB S2_54 1 S2_63 = true) := ⟨by kernel_rfl, by kernel_rfl, by kernel_rfl, by kernel_rfl, by kernel_rfl, by kernel_rfl, by kernel_rfl, by kernel_rfl⟩
theorem d2_52_0 : dB S2_52 0 S2_61 = true := Y7_g5.1
theorem d2_52_1 : dB S2_52 1 S2_61 = true := Y7_g5.2.1
theorem d2_52_2 : dB S2_52 2 S2_61 = true := Y7_g5.2.2.1
theorem d2_52_3 : dB S2_52 3 S2_62 = true := Y7_g5.2.2.2.1
theorem u2_53 : undB S2_53 0 = true := Y7_g5.2.2.2.2.1
theorem u2_54 : undB S2_54 2 = true := Y7_g5.2.2.2.2.2.1
theorem d2_54_0 : dB S2_54 0 S2_63 = true := Y7_g5.2.2.2.2.2.2.1
theorem d2_54_1 : dB S2_54 1 S2_63 = true := Y7_g5.2.2.2.2.2.2.2
set_option maxRecDepth 1000000 in
theorem Y7_g6 : (undB S2_55 1 = true) ∧ (dB S2_55 0 S2_63 = true) ∧ (undB S2_56 4 = true) ∧ (dB S2_56 0 S2_64 = true) ∧ (dB S2_56 1 S2_64 = true) ∧ (dB S2_56 2 S2_64 = true) ∧ (dB S2_56 3 S2_64 = true) ∧ (undB S2_57 3 = true) ∧ (dB S2_57 0 S2_64 = true) ∧ (dB S2_57 1 S2_65 = true) := ⟨by kernel_rfl, by kernel_rfl, by kernel_rfl, by kernel_rfl, by kernel_rfl, by kernel_rfl, by kernel_rfl, by kernel_rfl, by kernel_rfl, by kernel_rfl⟩
theorem u2_55 : undB S2_55 1 = true := Y7_g6.1
theorem d2_55_0 : dB S2_55 0 S2_63 = true := Y7_g6.2.1
theorem u2_56 : undB S2_56 4 = true := Y7_g6.2.2.1
theorem d2_56_0 : dB S2_56 0 S2_64 = true := Y7_g6.2.2.2.1
theorem d2_56_1 : dB S2_56 1 S2_64 = true := Y7_g6.2.2.2.2.1
theorem d2_56_2 : dB S2_56 2 S2_64 = true := Y7_g6.2.2.2.2.2.1
theorem d2_56_3 : dB S2_56 3 S2_64 = true := Y7_g6.2.2.2.2.2.2.1
theorem u2_57 : undB S2_57 3 = true := Y7_g6.2.2.2.2.2.2.2.1
theorem d2_57_0 : dB S2_57 0 S2_64 = true := Y7_g6.2.2.2.2.2.2.2.2.1
theorem d2_57_1 : dB S2_57 1 S2_65 = true := Y7_g6.2.2.2.2.2.2.2.2.2
set_option maxRecDepth 1000000 in
theorem Y7_g7 : (dB S2_57 2 S2_65 = true) ∧ (undB S2_58 2 = true) ∧ (dB S2_58 0 S2_65 = true) ∧ (dB S2_58 1 S2_65 = true) ∧ (undB S2_59 6 = true) ∧ (dB S2_59 0 S2_66 = true) ∧ (dB S2_59 1 S2_66 = true) ∧ (dB S2_59 2 S2_66 = true) ∧ (dB S2_59 3 S2_66 = true) := ⟨by kernel_rfl, by kernel_rfl, by kernel_rfl, by kernel_rfl, by kernel_rfl, by kernel_rfl, by kernel_rfl, by kernel_rfl, by kernel_rfl⟩
theorem d2_57_2 : dB S2_57 2 S2_65 = true := Y7_g7.1
theorem u2_58 : undB S2_58 2 = true := Y7_g7.2.1
theorem d2_58_0 : dB S2_58 0 S2_65 = true := Y7_g7.2.2.1
theorem d2_58_1 : dB S2_58 1 S2_65 = true := Y7_g7.2.2.2.1
theorem u2_59 : undB S2_59 6 = true := Y7_g7.2.2.2.2.1
theorem d2_59_0 : dB S2_59 0 S2_66 = true := Y7_g7.2.2.2.2.2.1
theorem d2_59_1 : dB S2_59 1 S2_66 = true := Y7_g7.2.2.2.2.2.2.1
theorem d2_59_2 : dB S2_59 2 S2_66 = true := Y7_g7.2.2.2.2.2.2.2.1
theorem d2_59_3 : dB S2_59 3 S2_66 = true := Y7_g7.2.2.2.2.2.2.2.2
set_option maxRecDepth 1000000 in
theorem Y7_g8 : (dB S2_59 4 S2_66 = true) ∧ (dB S2_59 5 S2_66 = true) ∧ (undB S2_60 5 = true) ∧ (dB S2_60 0 S2_66 = true) ∧ (dB S2_60 1 S2_67 = true) ∧ (dB S2_60 2 S2_67 = true) ∧ (dB S2_60 3 S2_67 = true) ∧ (dB S2_60 4 S2_67 = true) ∧ (undB S2_61 4 = true) := ⟨by kernel_rfl, by kernel_rfl, by kernel_rfl, by kernel_rfl, by kernel_rfl, by kernel_rfl, by kernel_rfl, by kernel_rfl, by kernel_rfl⟩
theorem d2_59_4 : dB S2_59 4 S2_66 = true := Y7_g8.1
theorem d2_59_5 : dB S2_59 5 S2_66 = true := Y7_g8.2.1
theorem u2_60 : undB S2_60 5 = true := Y7_g8.2.2.1
theorem d2_60_0 : dB S2_60 0 S2_66 = true := Y7_g8.2.2.2.1
theorem d2_60_1 : dB S2_60 1 S2_67 = true := Y7_g8.2.2.2.2.1
theorem d2_60_2 : dB S2_60 2 S2_67 = true := Y7_g8.2.2.2.2.2.1
theorem d2_60_3 : dB S2_60 3 S2_67 = true := Y7_g8.2.2.2.2.2.2.1
theorem d2_60_4 : dB S2_60 4 S2_67 = true := Y7_g8.2.2.2.2.2.2.2.1
theorem u2_61 : undB S2_61 4 = true := Y7_g8.2.2.2.2.2.2.2.2
set_option maxRecDepth 1000000 in
theorem Y7_g9 : (dB S2_61 0 S2_67 = true) ∧ (dB S2_61 1 S2_67 = true) ∧ (dB S2_61 2 S2_68 = true) ∧ (dB S2_61 3 S2_68 = true) ∧ (undB S2_62 3 = true) ∧ (dB S2_62 0 S2_68 = true) := ⟨by kernel_rfl, by kernel_rfl, by kernel_rfl, by kernel_rfl, by kernel_rfl, by kernel_rfl⟩
theorem d2_61_0 : dB S2_61 0 S2_67 = true := Y7_g9.1
theorem d2_61_1 : dB S2_61 1 S2_67 = true := Y7_g9.2.1
theorem d2_61_2 : dB S2_61 2 S2_68 = true := Y7_g9.2.2.1
theorem d2_61_3 : dB S2_61 3 S2_68 = true := Y7_g9.2.2.2.1
theorem u2_62 : undB S2_62 3 = true := Y7_g9.2.2.2.2.1
theorem d2_62_0 : dB S2_62 0 S2_68 = true := Y7_g9.2.2.2.2.2

end Go.Proofs.YtaceajadklmddaaGreat
