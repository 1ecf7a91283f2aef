/- The law WorldTwice: what happens (2). -/
import Derived.Test.YtaceajadklmddaaGreatXn0
namespace Go.Proofs.YtaceajadklmddaaGreat
open Go Go.Cx Go.RowKit

set_option maxRecDepth 1000000 in
theorem Y2_g0 : (dB S1_33 0 S1_44 = true) ∧ (dB S1_33 1 S1_44 = true) ∧ (undB S1_34 1 = true) ∧ (dB S1_34 0 S1_44 = true) ∧ (undB S1_35 4 = true) ∧ (dB S1_35 0 S1_45 = true) ∧ (dB S1_35 1 S1_45 = true) ∧ (dB S1_35 2 S1_45 = true) ∧ (dB S1_35 3 S1_45 = true) ∧ (undB S1_36 3 = true) ∧ (dB S1_36 0 S1_45 = true) ∧ (dB S1_36 1 S1_46 = true) := ⟨by kernel_rfl, by kernel_rfl, by kernel_rfl, by kernel_rfl, by kernel_rfl, by kernel_rfl, by kernel_rfl, by kernel_rfl, by kernel_rfl, by kernel_rfl, by kernel_rfl, by kernel_rfl⟩
theorem d1_33_0 : dB S1_33 0 S1_44 = true := Y2_g0.1
theorem d1_33_1 : dB S1_33 1 S1_44 = true := Y2_g0.2.1
theorem u1_34 : undB S1_34 1 = true := Y2_g0.2.2.1
theorem d1_34_0 : dB S1_34 0 S1_44 = true := Y2_g0.2.2.2.1
theorem u1_35 : undB S1_35 4 = true := Y2_g0.2.2.2.2.1
theorem d1_35_0 : dB S1_35 0 S1_45 = true := Y2_g0.2.2.2.2.2.1
theorem d1_35_1 : dB S1_35 1 S1_45 = true := Y2_g0.2.2.2.2.2.2.1
theorem d1_35_2 : dB S1_35 2 S1_45 = true := Y2_g0.2.2.2.2.2.2.2.1
theorem d1_35_3 : dB S1_35 3 S1_45 = true := Y2_g0.2.2.2.2.2.2.2.2.1
theorem u1_36 : undB S1_36 3 = true := Y2_g0.2.2.2.2.2.2.2.2.2.1
theorem d1_36_0 : dB S1_36 0 S1_45 = true := Y2_g0.2.2.2.2.2.2.2.2.2.2.1
theorem d1_36_1 : dB S1_36 1 S1_46 = true := Y2_g0.2.2.2.2.2.2.2.2.2.2.2
set_option maxRecDepth 1000000 in
theorem Y2_g1 : (dB S1_36 2 S1_46 = true) ∧ (undB S1_37 2 = true) ∧ (dB S1_37 0 S1_46 = true) ∧ (dB S1_37 1 S1_46 = true) ∧ (undB S1_38 5 = true) ∧ (dB S1_38 0 S1_47 = true) ∧ (dB S1_38 1 S1_48 = true) ∧ (dB S1_38 2 S1_48 = true) ∧ (dB S1_38 3 S1_48 = true) := ⟨by kernel_rfl, by kernel_rfl, by kernel_rfl, by kernel_rfl, by kernel_rfl, by kernel_rfl, by kernel_rfl, by kernel_rfl, by kernel_rfl⟩
theorem d1_36_2 : dB S1_36 2 S1_46 = true := Y2_g1.1
theorem u1_37 : undB S1_37 2 = true := Y2_g1.2.1
theorem d1_37_0 : dB S1_37 0 S1_46 = true := Y2_g1.2.2.1
theorem d1_37_1 : dB S1_37 1 S1_46 = true := Y2_g1.2.2.2.1
theorem u1_38 : undB S1_38 5 = true := Y2_g1.2.2.2.2.1
theorem d1_38_0 : dB S1_38 0 S1_47 = true := Y2_g1.2.2.2.2.2.1
theorem d1_38_1 : dB S1_38 1 S1_48 = true := Y2_g1.2.2.2.2.2.2.1
theorem d1_38_2 : dB S1_38 2 S1_48 = true := Y2_g1.2.2.2.2.2.2.2.1
theorem d1_38_3 : dB S1_38 3 S1_48 = true := Y2_g1.2.2.2.2.2.2.2.2
set_option maxRecDepth 1000000 in
theorem Y2_g2 : (dB S1_38 4 S1_48 = true) ∧ (undB S1_39 4 = true) ∧ (dB S1_39 0 S1_48 = true) ∧ (dB S1_39 1 S1_48 = true) ∧ (dB S1_39 2 S1_49 = true) ∧ (dB S1_39 3 S1_49 = true) ∧ (undB S1_40 3 = true) ∧ (dB S1_40 0 S1_49 = true) := ⟨by kernel_rfl, by kernel_rfl, by kernel_rfl, by kernel_rfl, by kernel_rfl, by kernel_rfl, by kernel_rfl, by kernel_rfl⟩
theorem d1_38_4 : dB S1_38 4 S1_48 = true := Y2_g2.1
theorem u1_39 : undB S1_39 4 = true := Y2_g2.2.1
theorem d1_39_0 : dB S1_39 0 S1_48 = true := Y2_g2.2.2.1
theorem d1_39_1 : dB S1_39 1 S1_48 = true := Y2_g2.2.2.2.1
theorem d1_39_2 : dB S1_39 2 S1_49 = true := Y2_g2.2.2.2.2.1
theorem d1_39_3 : dB S1_39 3 S1_49 = true := Y2_g2.2.2.2.2.2.1
theorem u1_40 : undB S1_40 3 = true := Y2_g2.2.2.2.2.2.2.1
theorem d1_40_0 : dB S1_40 0 S1_49 = true := Y2_g2.2.2.2.2.2.2.2
set_option maxRecDepth 1000000 in
theorem Y2_g3 : (dB S1_40 1 S1_49 = true) ∧ (dB S1_40 2 S1_49 = true) ∧ (undB S1_41 6 = true) ∧ (dB S1_41 0 S1_50 = true) ∧ (dB S1_41 1 S1_50 = true) ∧ (dB S1_41 2 S1_51 = true) ∧ (dB S1_41 3 S1_51 = true) := ⟨by kernel_rfl, by kernel_rfl, by kernel_rfl, by kernel_rfl, by kernel_rfl, by kernel_rfl, by kernel_rfl⟩
theorem d1_40_1 : dB S1_40 1 S1_49 = true := Y2_g3.1
theorem d1_40_2 : dB S1_40 2 S1_49 = true := Y2_g3.2.1
theorem u1_41 : undB S1_41 6 = true := Y2_g3.2.2.1
theorem d1_41_0 : dB S1_41 0 S1_50 = true := Y2_g3.2.2.2.1
theorem d1_41_1 : dB S1_41 1 S1_50 = true := Y2_g3.2.2.2.2.1
theorem d1_41_2 : dB S1_41 2 S1_51 = true := Y2_g3.2.2.2.2.2.1
theorem d1_41_3 : dB S1_41 3 S1_51 = true := Y2_g3.2.2.2.2.2.2
set_option maxRecDepth 1000000 in
theorem Y2_g4 : (dB S1_41 4 S1_51 = true) ∧ (dB S1_41 5 S1_51 = true) ∧ (undB S1_42 5 = true) ∧ (dB S1_42 0 S1_51 = true) ∧ (dB S1_42 1 S1_51 = true) ∧ (dB S1_42 2 S1_51 = true) ∧ (dB S1_42 3 S1_52 = true) ∧ (dB S1_42 4 S1_52 = true) ∧ (undB S1_43 4 = true) := ⟨by kernel_rfl, by kernel_rfl, by kernel_rfl, by kernel_rfl, by kernel_rfl, by kernel_rfl, by kernel_rfl, by kernel_rfl, by kernel_rfl⟩
theorem d1_41_4 : dB S1_41 4 S1_51 = true := Y2_g4.1
theorem d1_41_5 : dB S1_41 5 S1_51 = true := Y2_g4.2.1
theorem u1_42 : undB S1_42 5 = true := Y2_g4.2.2.1
theorem d1_42_0 : dB S1_42 0 S1_51 = true := Y2_g4.2.2.2.1
theorem d1_42_1 : dB S1_42 1 S1_51 = true := Y2_g4.2.2.2.2.1
theorem d1_42_2 : dB S1_42 2 S1_51 = true := Y2_g4.2.2.2.2.2.1
theorem d1_42_3 : dB S1_42 3 S1_52 = true := Y2_g4.2.2.2.2.2.2.1
theorem d1_42_4 : dB S1_42 4 S1_52 = true := Y2_g4.2.2.2.2.2.2.2.1
theorem u1_43 : undB S1_43 4 = true := Y2_g4.2.2.2.2.2.2.2.2
set_option maxRecDepth 1000000 in
theorem Y2_g5 : (dB S1_43 0 S1_52 = true) ∧ (dB S1_43 1 S1_52 = true) ∧ (dB S1_43 2 S1_52 = true) ∧ (dB S1_43 3 S1_52 = true) ∧ (undB S1_44 1 = true) ∧ (dB S1_44 0 S1_53 = true) ∧ (undB S1_45 3 = true) ∧ (dB S1_45 0 S1_54 = true) := ⟨by kernel_rfl, by kernel_rfl, by kernel_rfl, by kernel_rfl, by kernel_rfl, by kernel_rfl, by kernel_rfl, by kernel_rfl⟩
theorem d1_43_0 : dB S1_43 0 S1_52 = true := Y2_g5.1
theorem d1_43_1 : dB S1_43 1 S1_52 = true := Y2_g5.2.1
theorem d1_43_2 : dB S1_43 2 S1_52 = true := Y2_g5.2.2.1
theorem d1_43_3 : dB S1_43 3 S1_52 = true := Y2_g5.2.2.2.1
theorem u1_44 : undB S1_44 1 = true := Y2_g5.2.2.2.2.1
theorem d1_44_0 : dB S1_44 0 S1_53 = true := Y2_g5.2.2.2.2.2.1
theorem u1_45 : undB S1_45 3 = true := Y2_g5.2.2.2.2.2.2.1
theorem d1_45_0 : dB S1_45 0 S1_54 = true := Y2_g5.2.2.2.2.2.2.2
set_option maxRecDepth 1000000 in
theorem Y2_g6 : (dB S1_45 1 S1_54 = true) ∧ (dB S1_45 2 S1_54 = true) ∧ (undB S1_46 2 = true) ∧ (dB S1_46 0 S1_54 = true) ∧ (dB S1_46 1 S1_55 = true) ∧ (undB S1_47 5 = true) ∧ (dB S1_47 0 S1_56 = true) ∧ (dB S1_47 1 S1_56 = true) ∧ (dB S1_47 2 S1_56 = true) ∧ (dB S1_47 3 S1_56 = true) ∧ (dB S1_47 4 S1_56 = true) ∧ (undB S1_48 4 = true) := ⟨by kernel_rfl, by kernel_rfl, by kernel_rfl, by kernel_rfl, by kernel_rfl, by kernel_rfl, by kernel_rfl, by kernel_rfl, by kernel_rfl, by kernel_rfl, by kernel_rfl, by kernel_rfl⟩
theorem d1_45_1 : dB S1_45 1 S1_54 = true := Y2_g6.1
theorem d1_45_2 : dB S1_45 2 S1_54 = true := Y2_g6.2.1
theorem u1_46 : undB S1_46 2 = true := Y2_g6.2.2.1
theorem d1_46_0 : dB S1_46 0 S1_54 = true := Y2_g6.2.2.2.1
theorem d1_46_1 : dB S1_46 1 S1_55 = true := Y2_g6.2.2.2.2.1
theorem u1_47 : undB S1_47 5 = true := Y2_g6.2.2.2.2.2.1
theorem d1_47_0 : dB S1_47 0 S1_56 = true := Y2_g6.2.2.2.2.2.2.1
theorem d1_47_1 : dB S1_47 1 S1_56 = true := Y2_g6.2.2.2.2.2.2.2.1
theorem d1_47_2 : dB S1_47 2 S1_56 = true := Y2_g6.2.2.2.2.2.2.2.2.1
theorem d1_47_3 : dB S1_47 3 S1_56 = true := Y2_g6.2.2.2.2.2.2.2.2.2.1
theorem d1_47_4 : dB S1_47 4 S1_56 = true := Y2_g6.2.2.2.2.2.2.2.2.2.2.1
theorem u1_48 : undB S1_48 4 = true := Y2_g6.2.2.2.2.2.2.2.2.2.2.2
set_option maxRecDepth 1000000 in
theorem Y2_g7 : (dB S1_48 0 S1_56 = true) ∧ (dB S1_48 1 S1_57 = true) ∧ (dB S1_48 2 S1_57 = true) ∧ (dB S1_48 3 S1_57 = true) ∧ (undB S1_49 3 = true) ∧ (dB S1_49 0 S1_57 = true) ∧ (dB S1_49 1 S1_57 = true) ∧ (dB S1_49 2 S1_58 = true) ∧ (undB S1_50 6 = true) := ⟨by kernel_rfl, by kernel_rfl, by kernel_rfl, by kernel_rfl, by kernel_rfl, by kernel_rfl, by kernel_rfl, by kernel_rfl, by kernel_rfl⟩
theorem d1_48_0 : dB S1_48 0 S1_56 = true := Y2_g7.1
theorem d1_48_1 : dB S1_48 1 S1_57 = true := Y2_g7.2.1
theorem d1_48_2 : dB S1_48 2 S1_57 = true := Y2_g7.2.2.1
theorem d1_48_3 : dB S1_48 3 S1_57 = true := Y2_g7.2.2.2.1
theorem u1_49 : undB S1_49 3 = true := Y2_g7.2.2.2.2.1
theorem d1_49_0 : dB S1_49 0 S1_57 = true := Y2_g7.2.2.2.2.2.1
theorem d1_49_1 : dB S1_49 1 S1_57 = true := Y2_g7.2.2.2.2.2.2.1
theorem d1_49_2 : dB S1_49 2 S1_58 = true := Y2_g7.2.2.2.2.2.2.2.1
theorem u1_50 : undB S1_50 6 = true := Y2_g7.2.2.2.2.2.2.2.2
set_option maxRecDepth 1000000 in
theorem Y2_g8 : (dB S1_50 0 S1_59 = true) ∧ (dB S1_50 1 S1_60 = true) ∧ (dB S1_50 2 S1_60 = true) ∧ (dB S1_50 3 S1_60 = true) ∧ (dB S1_50 4 S1_60 = true) ∧ (dB S1_50 5 S1_60 = true) ∧ (undB S1_51 5 = true) ∧ (dB S1_51 0 S1_60 = true) := ⟨by kernel_rfl, by kernel_rfl, by kernel_rfl, by kernel_rfl, by kernel_rfl, by kernel_rfl, by kernel_rfl, by kernel_rfl⟩
theorem d1_50_0 : dB S1_50 0 S1_59 = true := Y2_g8.1
theorem d1_50_1 : dB S1_50 1 S1_60 = true := Y2_g8.2.1
theorem d1_50_2 : dB S1_50 2 S1_60 = true := Y2_g8.2.2.1
theorem d1_50_3 : dB S1_50 3 S1_60 = true := Y2_g8.2.2.2.1
theorem d1_50_4 : dB S1_50 4 S1_60 = true := Y2_g8.2.2.2.2.1
theorem d1_50_5 : dB S1_50 5 S1_60 = true := Y2_g8.2.2.2.2.2.1
theorem u1_51 : undB S1_51 5 = true := Y2_g8.2.2.2.2.2.2.1
theorem d1_51_0 : dB S1_51 0 S1_60 = true := Y2_g8.2.2.2.2.2.2.2
set_option maxRecDepth 1000000 in
theorem Y2_g9 : (dB S1_51 1 S1_60 = true) ∧ (dB S1_51 2 S1_61 = true) ∧ (dB S1_51 3 S1_61 = true) ∧ (dB S1_51 4 S1_61 = true) ∧ (undB S1_52 4 = true) ∧ (dB S1_52 0 S1_61 = true) ∧ (dB S1_52 1 S1_61 = true) := ⟨by kernel_rfl, by kernel_rfl, by kernel_rfl, by kernel_rfl, by kernel_rfl, by kernel_rfl, by kernel_rfl⟩
theorem d1_51_1 : dB S1_51 1 S1_60 = true := Y2_g9.1
theorem d1_51_2 : dB S1_51 2 S1_61 = true := Y2_g9.2.1
theorem d1_51_3 : dB S1_51 3 S1_61 = true := Y2_g9.2.2.1
theorem d1_51_4 : dB S1_51 4 S1_61 = true := Y2_g9.2.2.2.1
theorem u1_52 : undB S1_52 4 = true := Y2_g9.2.2.2.2.1
theorem d1_52_0 : dB S1_52 0 S1_61 = true := Y2_g9.2.2.2.2.2.1
theorem d1_52_1 : dB S1_52 1 S1_61 = true := Y2_g9.2.2.2.2.2.2

end Go.Proofs.YtaceajadklmddaaGreat
