/- The law WorldTwice: what happens (12). -/
import Derived.Test.YtaceajadklmddaaGreatXn0
namespace Go.Proofs.YtaceajadklmddaaGreat
open Go Go.Cx Go.RowKit

set_option maxRecDepth 1000000 in
theorem Y12_g0 : (dB S3_41 2 S3_51 = true) ∧ (dB S3_41 3 S3_51 = true) ∧ (dB S3_41 4 S3_51 = true) ∧ (dB S3_41 5 S3_51 = true) ∧ (undB S3_42 5 = true) ∧ (dB S3_42 0 S3_51 = true) := ⟨by kernel_rfl, by kernel_rfl, by kernel_rfl, by kernel_rfl, by kernel_rfl, by kernel_rfl⟩
theorem d3_41_2 : dB S3_41 2 S3_51 = true := Y12_g0.1
theorem d3_41_3 : dB S3_41 3 S3_51 = true := Y12_g0.2.1
theorem d3_41_4 : dB S3_41 4 S3_51 = true := Y12_g0.2.2.1
theorem d3_41_5 : dB S3_41 5 S3_51 = true := Y12_g0.2.2.2.1
theorem u3_42 : undB S3_42 5 = true := Y12_g0.2.2.2.2.1
theorem d3_42_0 : dB S3_42 0 S3_51 = true := Y12_g0.2.2.2.2.2
set_option maxRecDepth 1000000 in
theorem Y12_g1 : (dB S3_42 1 S3_51 = true) ∧ (dB S3_42 2 S3_51 = true) ∧ (dB S3_42 3 S3_52 = true) ∧ (dB S3_42 4 S3_52 = true) ∧ (undB S3_43 4 = true) := ⟨by kernel_rfl, by kernel_rfl, by kernel_rfl, by kernel_rfl, by kernel_rfl⟩
theorem d3_42_1 : dB S3_42 1 S3_51 = true := Y12_g1.1
theorem d3_42_2 : dB S3_42 2 S3_51 = true := Y12_g1.2.1
theorem d3_42_3 : dB S3_42 3 S3_52 = true := Y12_g1.2.2.1
theorem d3_42_4 : dB S3_42 4 S3_52 = true := Y12_g1.2.2.2.1
theorem u3_43 : undB S3_43 4 = true := Y12_g1.2.2.2.2
set_option maxRecDepth 1000000 in
theorem Y12_g2 : (dB S3_43 0 S3_52 = true) ∧ (dB S3_43 1 S3_52 = true) ∧ (dB S3_43 2 S3_52 = true) := ⟨by kernel_rfl, by kernel_rfl, by kernel_rfl⟩
theorem d3_43_0 : dB S3_43 0 S3_52 = true := Y12_g2.1
theorem d3_43_1 : dB S3_43 1 S3_52 = true := Y12_g2.2.1
theorem d3_43_2 : dB S3_43 2 S3_52 = true := Y12_g2.2.2
set_option maxRecDepth 1000000 in
theorem Y12_g3 : (dB S3_43 3 S3_52 = true) ∧ (undB S3_44 1 = true) ∧ (dB S3_44 0 S3_53 = true) ∧ (undB S3_45 3 = true) ∧ (dB S3_45 0 S3_54 = true) ∧ (dB S3_45 1 S3_54 = true) ∧ (dB S3_45 2 S3_54 = true) ∧ (undB S3_46 2 = true) ∧ (dB S3_46 0 S3_54 = true) := ⟨by kernel_rfl, by kernel_rfl, by kernel_rfl, by kernel_rfl, by kernel_rfl, by kernel_rfl, by kernel_rfl, by kernel_rfl, by kernel_rfl⟩
theorem d3_43_3 : dB S3_43 3 S3_52 = true := Y12_g3.1
theorem u3_44 : undB S3_44 1 = true := Y12_g3.2.1
theorem d3_44_0 : dB S3_44 0 S3_53 = true := Y12_g3.2.2.1
theorem u3_45 : undB S3_45 3 = true := Y12_g3.2.2.2.1
theorem d3_45_0 : dB S3_45 0 S3_54 = true := Y12_g3.2.2.2.2.1
theorem d3_45_1 : dB S3_45 1 S3_54 = true := Y12_g3.2.2.2.2.2.1
theorem d3_45_2 : dB S3_45 2 S3_54 = true := Y12_g3.2.2.2.2.2.2.1
theorem u3_46 : undB S3_46 2 = true := Y12_g3.2.2.2.2.2.2.2.1
theorem d3_46_0 : dB S3_46 0 S3_54 = true := Y12_g3.2.2.2.2.2.2.2.2
set_option maxRecDepth 1000000 in
theorem Y12_g4 : (dB S3_46 1 S3_55 = true) ∧ (undB S3_47 5 = true) ∧ (dB S3_47 0 S3_56 = true) ∧ (dB S3_47 1 S3_56 = true) ∧ (dB S3_47 2 S3_56 = true) ∧ (dB S3_47 3 S3_56 = true) ∧ (dB S3_47 4 S3_56 = true) ∧ (undB S3_48 4 = true) ∧ (dB S3_48 0 S3_56 = true) := ⟨by kernel_rfl, by kernel_rfl, by kernel_rfl, by kernel_rfl, by kernel_rfl, by kernel_rfl, by kernel_rfl, by kernel_rfl, by kernel_rfl⟩
theorem d3_46_1 : dB S3_46 1 S3_55 = true := Y12_g4.1
theorem u3_47 : undB S3_47 5 = true := Y12_g4.2.1
theorem d3_47_0 : dB S3_47 0 S3_56 = true := Y12_g4.2.2.1
theorem d3_47_1 : dB S3_47 1 S3_56 = true := Y12_g4.2.2.2.1
theorem d3_47_2 : dB S3_47 2 S3_56 = true := Y12_g4.2.2.2.2.1
theorem d3_47_3 : dB S3_47 3 S3_56 = true := Y12_g4.2.2.2.2.2.1
theorem d3_47_4 : dB S3_47 4 S3_56 = true := Y12_g4.2.2.2.2.2.2.1
theorem u3_48 : undB S3_48 4 = true := Y12_g4.2.2.2.2.2.2.2.1
theorem d3_48_0 : dB S3_48 0 S3_56 = true := Y12_g4.2.2.2.2.2.2.2.2
set_option maxRecDepth 1000000 in
theorem Y12_g5 : (dB S3_48 1 S3_57 = true) ∧ (dB S3_48 2 S3_57 = true) ∧ (dB S3_48 3 S3_57 = true) ∧ (undB S3_49 3 = true) ∧ (dB S3_49 0 S3_57 = true) ∧ (dB S3_49 1 S3_57 = true) ∧ (dB S3_49 2 S3_58 = true) ∧ (undB S3_50 6 = true) := ⟨by kernel_rfl, by kernel_rfl, by kernel_rfl, by kernel_rfl, by kernel_rfl, by kernel_rfl, by kernel_rfl, by kernel_rfl⟩
theorem d3_48_1 : dB S3_48 1 S3_57 = true := Y12_g5.1
theorem d3_48_2 : dB S3_48 2 S3_57 = true := Y12_g5.2.1
theorem d3_48_3 : dB S3_48 3 S3_57 = true := Y12_g5.2.2.1
theorem u3_49 : undB S3_49 3 = true := Y12_g5.2.2.2.1
theorem d3_49_0 : dB S3_49 0 S3_57 = true := Y12_g5.2.2.2.2.1
theorem d3_49_1 : dB S3_49 1 S3_57 = true := Y12_g5.2.2.2.2.2.1
theorem d3_49_2 : dB S3_49 2 S3_58 = true := Y12_g5.2.2.2.2.2.2.1
theorem u3_50 : undB S3_50 6 = true := Y12_g5.2.2.2.2.2.2.2
set_option maxRecDepth 1000000 in
theorem Y12_g6 : (dB S3_50 0 S3_59 = true) ∧ (dB S3_50 1 S3_60 = true) ∧ (dB S3_50 2 S3_60 = true) ∧ (dB S3_50 3 S3_60 = true) ∧ (dB S3_50 4 S3_60 = true) ∧ (dB S3_50 5 S3_60 = true) ∧ (undB S3_51 5 = true) := ⟨by kernel_rfl, by kernel_rfl, by kernel_rfl, by kernel_rfl, by kernel_rfl, by kernel_rfl, by kernel_rfl⟩
theorem d3_50_0 : dB S3_50 0 S3_59 = true := Y12_g6.1
theorem d3_50_1 : dB S3_50 1 S3_60 = true := Y12_g6.2.1
theorem d3_50_2 : dB S3_50 2 S3_60 = true := Y12_g6.2.2.1
theorem d3_50_3 : dB S3_50 3 S3_60 = true := Y12_g6.2.2.2.1
theorem d3_50_4 : dB S3_50 4 S3_60 = true := Y12_g6.2.2.2.2.1
theorem d3_50_5 : dB S3_50 5 S3_60 = true := Y12_g6.2.2.2.2.2.1
theorem u3_51 : undB S3_51 5 = true := Y12_g6.2.2.2.2.2.2
set_option maxRecDepth 1000000 in
theorem Y12_g7 : (dB S3_51 0 S3_60 = true) ∧ (dB S3_51 1 S3_60 = true) ∧ (dB S3_51 2 S3_61 = true) ∧ (dB S3_51 3 S3_61 = true) ∧ (dB S3_51 4 S3_61 = true) ∧ (undB S3_52 4 = true) := ⟨by kernel_rfl, by kernel_rfl, by kernel_rfl, by kernel_rfl, by kernel_rfl, by kernel_rfl⟩
theorem d3_51_0 : dB S3_51 0 S3_60 = true := Y12_g7.1
theorem d3_51_1 : dB S3_51 1 S3_60 = true := Y12_g7.2.1
theorem d3_51_2 : dB S3_51 2 S3_61 = true := Y12_g7.2.2.1
theorem d3_51_3 : dB S3_51 3 S3_61 = true := Y12_g7.2.2.2.1
theorem d3_51_4 : dB S3_51 4 S3_61 = true := Y12_g7.2.2.2.2.1
theorem u3_52 : undB S3_52 4 = true := Y12_g7.2.2.2.2.2
set_option maxRecDepth 1000000 in
theorem Y12_g8 : (dB S3_52 0 S3_61 = true) ∧ (dB S3_52 1 S3_61 = true) ∧ (dB S3_52 2 S3_61 = true) ∧ (dB S3_52 3 S3_62 = true) ∧ (undB S3_53 0 = true) ∧ (undB S3_54 2 = true) := ⟨by kernel_rfl, by kernel_rfl, by kernel_rfl, by kernel_rfl, by kernel_rfl, by kernel_rfl⟩
theorem d3_52_0 : dB S3_52 0 S3_61 = true := Y12_g8.1
theorem d3_52_1 : dB S3_52 1 S3_61 = true := Y12_g8.2.1
theorem d3_52_2 : dB S3_52 2 S3_61 = true := Y12_g8.2.2.1
theorem d3_52_3 : dB S3_52 3 S3_62 = true := Y12_g8.2.2.2.1
theorem u3_53 : undB S3_53 0 = true := Y12_g8.2.2.2.2.1
theorem u3_54 : undB S3_54 2 = true := Y12_g8.2.2.2.2.2
set_option maxRecDepth 1000000 in
theorem Y12_g9 : (dB S3_54 0 S3_63 = true) ∧ (dB S3_54 1 S3_63 = true) ∧ (undB S3_55 1 = true) ∧ (dB S3_55 0 S3_63 = true) ∧ (undB S3_56 4 = true) ∧ (dB S3_56 0 S3_64 = true) ∧ (dB S3_56 1 S3_64 = true) ∧ (dB S3_56 2 S3_64 = true) ∧ (dB S3_56 3 S3_64 = true) ∧ (undB S3_57 3 = true) := ⟨by kernel_rfl, by kernel_rfl, by kernel_rfl, by kernel_rfl, by kernel_rfl, by kernel_rfl, by kernel_rfl, by kernel_rfl, by kernel_rfl, by kernel_rfl⟩
theorem d3_54_0 : dB S3_54 0 S3_63 = true := Y12_g9.1
theorem d3_54_1 : dB S3_54 1 S3_63 = true := Y12_g9.2.1
theorem u3_55 : undB S3_55 1 = true := Y12_g9.2.2.1
theorem d3_55_0 : dB S3_55 0 S3_63 = true := Y12_g9.2.2.2.1
theorem u3_56 : undB S3_56 4 = true := Y12_g9.2.2.2.2.1
theorem d3_56_0 : dB S3_56 0 S3_64 = true := Y12_g9.2.2.2.2.2.1
theorem d3_56_1 : dB S3_56 1 S3_64 = true := Y12_g9.2.2.2.2.2.2.1
theorem d3_56_2 : dB S3_56 2 S3_64 = true := Y12_g9.2.2.2.2.2.2.2.1
theorem d3_56_3 : dB S3_56 3 S3_64 = true := Y12_g9.2.2.2.2.2.2.2.2.1
theorem u3_57 : undB S3_57 3 = true := Y12_g9.2.2.2.2.2.2.2.2.2
set_option maxRecDepth 1000000 in
theorem d3_57_0 : dB S3_57 0 S3_64 = true := by kernel_rfl

end Go.Proofs.YtaceajadklmddaaGreat
