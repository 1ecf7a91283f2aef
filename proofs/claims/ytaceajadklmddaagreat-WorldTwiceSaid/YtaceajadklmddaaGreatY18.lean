/- The law WorldTwice: what happens (18). -/
import Derived.Test.YtaceajadklmddaaGreatXn0
namespace Go.Proofs.YtaceajadklmddaaGreat
open Go Go.Cx Go.RowKit

set_option maxRecDepth 1000000 in
theorem Y18_g0 : (dB S4_41 1 S4_50 = true) ∧ (dB S4_41 2 S4_51 = true) ∧ (dB S4_41 3 S4_51 = true) ∧ (dB S4_41 4 S4_51 = true) ∧ (dB S4_41 5 S4_51 = true) ∧ (undB S4_42 5 = true) := ⟨by kernel_rfl, by kernel_rfl, by kernel_rfl, by kernel_rfl, by kernel_rfl, by kernel_rfl⟩
theorem d4_41_1 : dB S4_41 1 S4_50 = true := Y18_g0.1
theorem d4_41_2 : dB S4_41 2 S4_51 = true := Y18_g0.2.1
theorem d4_41_3 : dB S4_41 3 S4_51 = true := Y18_g0.2.2.1
theorem d4_41_4 : dB S4_41 4 S4_51 = true := Y18_g0.2.2.2.1
theorem d4_41_5 : dB S4_41 5 S4_51 = true := Y18_g0.2.2.2.2.1
theorem u4_42 : undB S4_42 5 = true := Y18_g0.2.2.2.2.2
set_option maxRecDepth 1000000 in
theorem Y18_g1 : (dB S4_42 0 S4_51 = true) ∧ (dB S4_42 1 S4_51 = true) ∧ (dB S4_42 2 S4_51 = true) := ⟨by kernel_rfl, by kernel_rfl, by kernel_rfl⟩
theorem d4_42_0 : dB S4_42 0 S4_51 = true := Y18_g1.1
theorem d4_42_1 : dB S4_42 1 S4_51 = true := Y18_g1.2.1
theorem d4_42_2 : dB S4_42 2 S4_51 = true := Y18_g1.2.2
set_option maxRecDepth 1000000 in
theorem Y18_g2 : (dB S4_42 3 S4_52 = true) ∧ (dB S4_42 4 S4_52 = true) ∧ (undB S4_43 4 = true) ∧ (dB S4_43 0 S4_52 = true) ∧ (dB S4_43 1 S4_52 = true) := ⟨by kernel_rfl, by kernel_rfl, by kernel_rfl, by kernel_rfl, by kernel_rfl⟩
theorem d4_42_3 : dB S4_42 3 S4_52 = true := Y18_g2.1
theorem d4_42_4 : dB S4_42 4 S4_52 = true := Y18_g2.2.1
theorem u4_43 : undB S4_43 4 = true := Y18_g2.2.2.1
theorem d4_43_0 : dB S4_43 0 S4_52 = true := Y18_g2.2.2.2.1
theorem d4_43_1 : dB S4_43 1 S4_52 = true := Y18_g2.2.2.2.2
set_option maxRecDepth 1000000 in
theorem Y18_g3 : (dB S4_43 2 S4_52 = true) ∧ (dB S4_43 3 S4_52 = true) ∧ (undB S4_44 1 = true) ∧ (dB S4_44 0 S4_53 = true) ∧ (undB S4_45 3 = true) ∧ (dB S4_45 0 S4_54 = true) ∧ (dB S4_45 1 S4_54 = true) := ⟨by kernel_rfl, by kernel_rfl, by kernel_rfl, by kernel_rfl, by kernel_rfl, by kernel_rfl, by kernel_rfl⟩
theorem d4_43_2 : dB S4_43 2 S4_52 = true := Y18_g3.1
theorem d4_43_3 : dB S4_43 3 S4_52 = true := Y18_g3.2.1
theorem u4_44 : undB S4_44 1 = true := Y18_g3.2.2.1
theorem d4_44_0 : dB S4_44 0 S4_53 = true := Y18_g3.2.2.2.1
theorem u4_45 : undB S4_45 3 = true := Y18_g3.2.2.2.2.1
theorem d4_45_0 : dB S4_45 0 S4_54 = true := Y18_g3.2.2.2.2.2.1
theorem d4_45_1 : dB S4_45 1 S4_54 = true := Y18_g3.2.2.2.2.2.2
set_option maxRecDepth 1000000 in
theorem Y18_g4 : (dB S4_45 2 S4_54 = true) ∧ (undB S4_46 2 = true) ∧ (dB S4_46 0 S4_54 = true) ∧ (dB S4_46 1 S4_55 = true) ∧ (undB S4_47 5 = true) ∧ (dB S4_47 0 S4_56 = true) ∧ (dB S4_47 1 S4_56 = true) ∧ (dB S4_47 2 S4_56 = true) := ⟨by kernel_rfl, by kernel_rfl, by kernel_rfl, by kernel_rfl, by kernel_rfl, by kernel_rfl, by kernel_rfl, by kernel_rfl⟩
theorem d4_45_2 : dB S4_45 2 S4_54 = true := Y18_g4.1
theorem u4_46 : undB S4_46 2 = true := Y18_g4.2.1
theorem d4_46_0 : dB S4_46 0 S4_54 = true := Y18_g4.2.2.1
theorem d4_46_1 : dB S4_46 1 S4_55 = true := Y18_g4.2.2.2.1
theorem u4_47 : undB S4_47 5 = true := Y18_g4.2.2.2.2.1
theorem d4_47_0 : dB S4_47 0 S4_56 = true := Y18_g4.2.2.2.2.2.1
theorem d4_47_1 : dB S4_47 1 S4_56 = true := Y18_g4.2.2.2.2.2.2.1
theorem d4_47_2 : dB S4_47 2 S4_56 = true := Y18_g4.2.2.2.2.2.2.2
set_option maxRecDepth 1000000 in
theorem Y18_g5 : (dB S4_47 3 S4_56 = true) ∧ (dB S4_47 4 S4_56 = true) ∧ (undB S4_48 4 = true) ∧ (dB S4_48 0 S4_56 = true) ∧ (dB S4_48 1 S4_57 = true) ∧ (dB S4_48 2 S4_57 = true) ∧ (dB S4_48 3 S4_57 = true) ∧ (undB S4_49 3 = true) := ⟨by kernel_rfl, by kernel_rfl, by kernel_rfl, by kernel_rfl, by kernel_rfl, by kernel_rfl, by kernel_rfl, by kernel_rfl⟩
theorem d4_47_3 : dB S4_47 3 S4_56 = true := Y18_g5.1
theorem d4_47_4 : dB S4_47 4 S4_56 = true := Y18_g5.2.1
theorem u4_48 : undB S4_48 4 = true := Y18_g5.2.2.1
theorem d4_48_0 : dB S4_48 0 S4_56 = true := Y18_g5.2.2.2.1
theorem d4_48_1 : dB S4_48 1 S4_57 = true := Y18_g5.2.2.2.2.1
theorem d4_48_2 : dB S4_48 2 S4_57 = true := Y18_g5.2.2.2.2.2.1
theorem d4_48_3 : dB S4_48 3 S4_57 = true := Y18_g5.2.2.2.2.2.2.1
theorem u4_49 : undB S4_49 3 = true := Y18_g5.2.2.2.2.2.2.2
set_option maxRecDepth 1000000 in
theorem Y18_g6 : (dB S4_49 0 S4_57 = true) ∧ (dB S4_49 1 S4_57 = true) ∧ (dB S4_49 2 S4_58 = true) ∧ (undB S4_50 6 = true) := ⟨by kernel_rfl, by kernel_rfl, by kernel_rfl, by kernel_rfl⟩
theorem d4_49_0 : dB S4_49 0 S4_57 = true := Y18_g6.1
theorem d4_49_1 : dB S4_49 1 S4_57 = true := Y18_g6.2.1
theorem d4_49_2 : dB S4_49 2 S4_58 = true := Y18_g6.2.2.1
theorem u4_50 : undB S4_50 6 = true := Y18_g6.2.2.2
set_option maxRecDepth 1000000 in
theorem Y18_g7 : (dB S4_50 0 S4_59 = true) ∧ (dB S4_50 1 S4_60 = true) ∧ (dB S4_50 2 S4_60 = true) ∧ (dB S4_50 3 S4_60 = true) ∧ (dB S4_50 4 S4_60 = true) ∧ (dB S4_50 5 S4_60 = true) ∧ (undB S4_51 5 = true) := ⟨by kernel_rfl, by kernel_rfl, by kernel_rfl, by kernel_rfl, by kernel_rfl, by kernel_rfl, by kernel_rfl⟩
theorem d4_50_0 : dB S4_50 0 S4_59 = true := Y18_g7.1
theorem d4_50_1 : dB S4_50 1 S4_60 = true := Y18_g7.2.1
theorem d4_50_2 : dB S4_50 2 S4_60 = true := Y18_g7.2.2.1
theorem d4_50_3 : dB S4_50 3 S4_60 = true := Y18_g7.2.2.2.1
theorem d4_50_4 : dB S4_50 4 S4_60 = true := Y18_g7.2.2.2.2.1
theorem d4_50_5 : dB S4_50 5 S4_60 = true := Y18_g7.2.2.2.2.2.1
theorem u4_51 : undB S4_51 5 = true := Y18_g7.2.2.2.2.2.2
set_option maxRecDepth 1000000 in
theorem Y18_g8 : (dB S4_51 0 S4_60 = true) ∧ (dB S4_51 1 S4_60 = true) ∧ (dB S4_51 2 S4_61 = true) ∧ (dB S4_51 3 S4_61 = true) ∧ (dB S4_51 4 S4_61 = true) := ⟨by kernel_rfl, by kernel_rfl, by kernel_rfl, by kernel_rfl, by kernel_rfl⟩
theorem d4_51_0 : dB S4_51 0 S4_60 = true := Y18_g8.1
theorem d4_51_1 : dB S4_51 1 S4_60 = true := Y18_g8.2.1
theorem d4_51_2 : dB S4_51 2 S4_61 = true := Y18_g8.2.2.1
theorem d4_51_3 : dB S4_51 3 S4_61 = true := Y18_g8.2.2.2.1
theorem d4_51_4 : dB S4_51 4 S4_61 = true := Y18_g8.2.2.2.2
set_option maxRecDepth 1000000 in
theorem Y18_g9 : (undB S4_52 4 = true) ∧ (dB S4_52 0 S4_61 = true) ∧ (dB S4_52 1 S4_61 = true) := ⟨by kernel_rfl, by kernel_rfl, by kernel_rfl⟩
theorem u4_52 : undB S4_52 4 = true := Y18_g9.1
theorem d4_52_0 : dB S4_52 0 S4_61 = true := Y18_g9.2.1
theorem d4_52_1 : dB S4_52 1 S4_61 = true := Y18_g9.2.2
set_option maxRecDepth 1000000 in
theorem d4_52_2 : dB S4_52 2 S4_61 = true := by kernel_rfl

end Go.Proofs.YtaceajadklmddaaGreat
