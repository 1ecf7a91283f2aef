/- The law WorldTwice: what happens (17). -/
import Derived.Test.YtaceajadklmddaaGreatXn0
namespace Go.Proofs.YtaceajadklmddaaGreat
open Go Go.Cx Go.RowKit

set_option maxRecDepth 1000000 in
theorem Y17_g0 : (dB S4_29 0 S4_39 = true) ∧ (dB S4_29 1 S4_39 = true) ∧ (dB S4_29 2 S4_39 = true) := ⟨by kernel_rfl, by kernel_rfl, by kernel_rfl⟩
theorem d4_29_0 : dB S4_29 0 S4_39 = true := Y17_g0.1
theorem d4_29_1 : dB S4_29 1 S4_39 = true := Y17_g0.2.1
theorem d4_29_2 : dB S4_29 2 S4_39 = true := Y17_g0.2.2
set_option maxRecDepth 1000000 in
theorem Y17_g1 : (dB S4_29 3 S4_40 = true) ∧ (undB S4_30 6 = true) ∧ (dB S4_30 0 S4_41 = true) ∧ (dB S4_30 1 S4_41 = true) := ⟨by kernel_rfl, by kernel_rfl, by kernel_rfl, by kernel_rfl⟩
theorem d4_29_3 : dB S4_29 3 S4_40 = true := Y17_g1.1
theorem u4_30 : undB S4_30 6 = true := Y17_g1.2.1
theorem d4_30_0 : dB S4_30 0 S4_41 = true := Y17_g1.2.2.1
theorem d4_30_1 : dB S4_30 1 S4_41 = true := Y17_g1.2.2.2
set_option maxRecDepth 1000000 in
theorem Y17_g2 : (dB S4_30 2 S4_41 = true) ∧ (dB S4_30 3 S4_42 = true) ∧ (dB S4_30 4 S4_42 = true) ∧ (dB S4_30 5 S4_42 = true) ∧ (undB S4_31 5 = true) := ⟨by kernel_rfl, by kernel_rfl, by kernel_rfl, by kernel_rfl, by kernel_rfl⟩
theorem d4_30_2 : dB S4_30 2 S4_41 = true := Y17_g2.1
theorem d4_30_3 : dB S4_30 3 S4_42 = true := Y17_g2.2.1
theorem d4_30_4 : dB S4_30 4 S4_42 = true := Y17_g2.2.2.1
theorem d4_30_5 : dB S4_30 5 S4_42 = true := Y17_g2.2.2.2.1
theorem u4_31 : undB S4_31 5 = true := Y17_g2.2.2.2.2
set_option maxRecDepth 1000000 in
theorem Y17_g3 : (dB S4_31 0 S4_42 = true) ∧ (dB S4_31 1 S4_42 = true) ∧ (dB S4_31 2 S4_42 = true) := ⟨by kernel_rfl, by kernel_rfl, by kernel_rfl⟩
theorem d4_31_0 : dB S4_31 0 S4_42 = true := Y17_g3.1
theorem d4_31_1 : dB S4_31 1 S4_42 = true := Y17_g3.2.1
theorem d4_31_2 : dB S4_31 2 S4_42 = true := Y17_g3.2.2
set_option maxRecDepth 1000000 in
theorem Y17_g4 : (dB S4_31 3 S4_42 = true) ∧ (dB S4_31 4 S4_43 = true) ∧ (undB S4_32 0 = true) ∧ (undB S4_33 2 = true) ∧ (dB S4_33 0 S4_44 = true) ∧ (dB S4_33 1 S4_44 = true) ∧ (undB S4_34 1 = true) ∧ (dB S4_34 0 S4_44 = true) := ⟨by kernel_rfl, by kernel_rfl, by kernel_rfl, by kernel_rfl, by kernel_rfl, by kernel_rfl, by kernel_rfl, by kernel_rfl⟩
theorem d4_31_3 : dB S4_31 3 S4_42 = true := Y17_g4.1
theorem d4_31_4 : dB S4_31 4 S4_43 = true := Y17_g4.2.1
theorem u4_32 : undB S4_32 0 = true := Y17_g4.2.2.1
theorem u4_33 : undB S4_33 2 = true := Y17_g4.2.2.2.1
theorem d4_33_0 : dB S4_33 0 S4_44 = true := Y17_g4.2.2.2.2.1
theorem d4_33_1 : dB S4_33 1 S4_44 = true := Y17_g4.2.2.2.2.2.1
theorem u4_34 : undB S4_34 1 = true := Y17_g4.2.2.2.2.2.2.1
theorem d4_34_0 : dB S4_34 0 S4_44 = true := Y17_g4.2.2.2.2.2.2.2
set_option maxRecDepth 1000000 in
theorem Y17_g5 : (undB S4_35 4 = true) ∧ (dB S4_35 0 S4_45 = true) ∧ (dB S4_35 1 S4_45 = true) ∧ (dB S4_35 2 S4_45 = true) ∧ (dB S4_35 3 S4_45 = true) ∧ (undB S4_36 3 = true) ∧ (dB S4_36 0 S4_45 = true) ∧ (dB S4_36 1 S4_46 = true) ∧ (dB S4_36 2 S4_46 = true) := ⟨by kernel_rfl, by kernel_rfl, by kernel_rfl, by kernel_rfl, by kernel_rfl, by kernel_rfl, by kernel_rfl, by kernel_rfl, by kernel_rfl⟩
theorem u4_35 : undB S4_35 4 = true := Y17_g5.1
theorem d4_35_0 : dB S4_35 0 S4_45 = true := Y17_g5.2.1
theorem d4_35_1 : dB S4_35 1 S4_45 = true := Y17_g5.2.2.1
theorem d4_35_2 : dB S4_35 2 S4_45 = true := Y17_g5.2.2.2.1
theorem d4_35_3 : dB S4_35 3 S4_45 = true := Y17_g5.2.2.2.2.1
theorem u4_36 : undB S4_36 3 = true := Y17_g5.2.2.2.2.2.1
theorem d4_36_0 : dB S4_36 0 S4_45 = true := Y17_g5.2.2.2.2.2.2.1
theorem d4_36_1 : dB S4_36 1 S4_46 = true := Y17_g5.2.2.2.2.2.2.2.1
theorem d4_36_2 : dB S4_36 2 S4_46 = true := Y17_g5.2.2.2.2.2.2.2.2
set_option maxRecDepth 1000000 in
theorem Y17_g6 : (undB S4_37 2 = true) ∧ (dB S4_37 0 S4_46 = true) ∧ (dB S4_37 1 S4_46 = true) ∧ (undB S4_38 5 = true) := ⟨by kernel_rfl, by kernel_rfl, by kernel_rfl, by kernel_rfl⟩
theorem u4_37 : undB S4_37 2 = true := Y17_g6.1
theorem d4_37_0 : dB S4_37 0 S4_46 = true := Y17_g6.2.1
theorem d4_37_1 : dB S4_37 1 S4_46 = true := Y17_g6.2.2.1
theorem u4_38 : undB S4_38 5 = true := Y17_g6.2.2.2
set_option maxRecDepth 1000000 in
theorem Y17_g7 : (dB S4_38 0 S4_47 = true) ∧ (dB S4_38 1 S4_48 = true) ∧ (dB S4_38 2 S4_48 = true) ∧ (dB S4_38 3 S4_48 = true) ∧ (dB S4_38 4 S4_48 = true) ∧ (undB S4_39 4 = true) := ⟨by kernel_rfl, by kernel_rfl, by kernel_rfl, by kernel_rfl, by kernel_rfl, by kernel_rfl⟩
theorem d4_38_0 : dB S4_38 0 S4_47 = true := Y17_g7.1
theorem d4_38_1 : dB S4_38 1 S4_48 = true := Y17_g7.2.1
theorem d4_38_2 : dB S4_38 2 S4_48 = true := Y17_g7.2.2.1
theorem d4_38_3 : dB S4_38 3 S4_48 = true := Y17_g7.2.2.2.1
theorem d4_38_4 : dB S4_38 4 S4_48 = true := Y17_g7.2.2.2.2.1
theorem u4_39 : undB S4_39 4 = true := Y17_g7.2.2.2.2.2
set_option maxRecDepth 1000000 in
theorem Y17_g8 : (dB S4_39 0 S4_48 = true) ∧ (dB S4_39 1 S4_48 = true) ∧ (dB S4_39 2 S4_49 = true) ∧ (dB S4_39 3 S4_49 = true) ∧ (undB S4_40 3 = true) := ⟨by kernel_rfl, by kernel_rfl, by kernel_rfl, by kernel_rfl, by kernel_rfl⟩
theorem d4_39_0 : dB S4_39 0 S4_48 = true := Y17_g8.1
theorem d4_39_1 : dB S4_39 1 S4_48 = true := Y17_g8.2.1
theorem d4_39_2 : dB S4_39 2 S4_49 = true := Y17_g8.2.2.1
theorem d4_39_3 : dB S4_39 3 S4_49 = true := Y17_g8.2.2.2.1
theorem u4_40 : undB S4_40 3 = true := Y17_g8.2.2.2.2
set_option maxRecDepth 1000000 in
theorem Y17_g9 : (dB S4_40 0 S4_49 = true) ∧ (dB S4_40 1 S4_49 = true) ∧ (dB S4_40 2 S4_49 = true) ∧ (undB S4_41 6 = true) := ⟨by kernel_rfl, by kernel_rfl, by kernel_rfl, by kernel_rfl⟩
theorem d4_40_0 : dB S4_40 0 S4_49 = true := Y17_g9.1
theorem d4_40_1 : dB S4_40 1 S4_49 = true := Y17_g9.2.1
theorem d4_40_2 : dB S4_40 2 S4_49 = true := Y17_g9.2.2.1
theorem u4_41 : undB S4_41 6 = true := Y17_g9.2.2.2
set_option maxRecDepth 1000000 in
theorem d4_41_0 : dB S4_41 0 S4_50 = true := by kernel_rfl

end Go.Proofs.YtaceajadklmddaaGreat
