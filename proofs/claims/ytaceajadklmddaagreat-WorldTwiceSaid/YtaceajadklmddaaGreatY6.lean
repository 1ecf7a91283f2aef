/- The law WorldTwice: what happens (6). -/
import Derived.Test.YtaceajadklmddaaGreatXn0
namespace Go.Proofs.YtaceajadklmddaaGreat
open Go Go.Cx Go.RowKit

set_option maxRecDepth 1000000 in
theorem Y6_g0 : (dB S2_28 2 S2_39 = true) ∧ (dB S2_28 3 S2_39 = true) ∧ (dB S2_28 4 S2_39 = true) ∧ (undB S2_29 4 = true) ∧ (dB S2_29 0 S2_39 = true) ∧ (dB S2_29 1 S2_39 = true) ∧ (dB S2_29 2 S2_39 = true) := ⟨by kernel_rfl, by kernel_rfl, by kernel_rfl, by kernel_rfl, by kernel_rfl, by kernel_rfl, by kernel_rfl⟩
theorem d2_28_2 : dB S2_28 2 S2_39 = true := Y6_g0.1
theorem d2_28_3 : dB S2_28 3 S2_39 = true := Y6_g0.2.1
theorem d2_28_4 : dB S2_28 4 S2_39 = true := Y6_g0.2.2.1
theorem u2_29 : undB S2_29 4 = true := Y6_g0.2.2.2.1
theorem d2_29_0 : dB S2_29 0 S2_39 = true := Y6_g0.2.2.2.2.1
theorem d2_29_1 : dB S2_29 1 S2_39 = true := Y6_g0.2.2.2.2.2.1
theorem d2_29_2 : dB S2_29 2 S2_39 = true := Y6_g0.2.2.2.2.2.2
set_option maxRecDepth 1000000 in
theorem Y6_g1 : (dB S2_29 3 S2_40 = true) ∧ (undB S2_30 6 = true) ∧ (dB S2_30 0 S2_41 = true) ∧ (dB S2_30 1 S2_41 = true) ∧ (dB S2_30 2 S2_41 = true) ∧ (dB S2_30 3 S2_42 = true) := ⟨by kernel_rfl, by kernel_rfl, by kernel_rfl, by kernel_rfl, by kernel_rfl, by kernel_rfl⟩
theorem d2_29_3 : dB S2_29 3 S2_40 = true := Y6_g1.1
theorem u2_30 : undB S2_30 6 = true := Y6_g1.2.1
theorem d2_30_0 : dB S2_30 0 S2_41 = true := Y6_g1.2.2.1
theorem d2_30_1 : dB S2_30 1 S2_41 = true := Y6_g1.2.2.2.1
theorem d2_30_2 : dB S2_30 2 S2_41 = true := Y6_g1.2.2.2.2.1
theorem d2_30_3 : dB S2_30 3 S2_42 = true := Y6_g1.2.2.2.2.2
set_option maxRecDepth 1000000 in
theorem Y6_g2 : (dB S2_30 4 S2_42 = true) ∧ (dB S2_30 5 S2_42 = true) ∧ (undB S2_31 5 = true) ∧ (dB S2_31 0 S2_42 = true) ∧ (dB S2_31 1 S2_42 = true) ∧ (dB S2_31 2 S2_42 = true) := ⟨by kernel_rfl, by kernel_rfl, by kernel_rfl, by kernel_rfl, by kernel_rfl, by kernel_rfl⟩
theorem d2_30_4 : dB S2_30 4 S2_42 = true := Y6_g2.1
theorem d2_30_5 : dB S2_30 5 S2_42 = true := Y6_g2.2.1
theorem u2_31 : undB S2_31 5 = true := Y6_g2.2.2.1
theorem d2_31_0 : dB S2_31 0 S2_42 = true := Y6_g2.2.2.2.1
theorem d2_31_1 : dB S2_31 1 S2_42 = true := Y6_g2.2.2.2.2.1
theorem d2_31_2 : dB S2_31 2 S2_42 = true := Y6_g2.2.2.2.2.2
set_option maxRecDepth 1000000 in
theorem Y6_g3 : (dB S2_31 3 S2_42 = true) ∧ (dB S2_31 4 S2_43 = true) ∧ (undB S2_32 0 = true) ∧ (undB S2_33 2 = true) ∧ (dB S2_33 0 S2_44 = true) ∧ (dB S2_33 1 S2_44 = true) ∧ (undB S2_34 1 = true) ∧ (dB S2_34 0 S2_44 = true) ∧ (undB S2_35 4 = true) ∧ (dB S2_35 0 S2_45 = true) ∧ (dB S2_35 1 S2_45 = true) := ⟨by kernel_rfl, by kernel_rfl, by kernel_rfl, by kernel_rfl, by kernel_rfl, by kernel_rfl, by kernel_rfl, by kernel_rfl, by kernel_rfl, by kernel_rfl, by kernel_rfl⟩
theorem d2_31_3 : dB S2_31 3 S2_42 = true := Y6_g3.1
theorem d2_31_4 : dB S2_31 4 S2_43 = true := Y6_g3.2.1
theorem u2_32 : undB S2_32 0 = true := Y6_g3.2.2.1
theorem u2_33 : undB S2_33 2 = true := Y6_g3.2.2.2.1
theorem d2_33_0 : dB S2_33 0 S2_44 = true := Y6_g3.2.2.2.2.1
theorem d2_33_1 : dB S2_33 1 S2_44 = true := Y6_g3.2.2.2.2.2.1
theorem u2_34 : undB S2_34 1 = true := Y6_g3.2.2.2.2.2.2.1
theorem d2_34_0 : dB S2_34 0 S2_44 = true := Y6_g3.2.2.2.2.2.2.2.1
theorem u2_35 : undB S2_35 4 = true := Y6_g3.2.2.2.2.2.2.2.2.1
theorem d2_35_0 : dB S2_35 0 S2_45 = true := Y6_g3.2.2.2.2.2.2.2.2.2.1
theorem d2_35_1 : dB S2_35 1 S2_45 = true := Y6_g3.2.2.2.2.2.2.2.2.2.2
set_option maxRecDepth 1000000 in
theorem Y6_g4 : (dB S2_35 2 S2_45 = true) ∧ (dB S2_35 3 S2_45 = true) ∧ (undB S2_36 3 = true) ∧ (dB S2_36 0 S2_45 = true) ∧ (dB S2_36 1 S2_46 = true) ∧ (dB S2_36 2 S2_46 = true) ∧ (undB S2_37 2 = true) ∧ (dB S2_37 0 S2_46 = true) := ⟨by kernel_rfl, by kernel_rfl, by kernel_rfl, by kernel_rfl, by kernel_rfl, by kernel_rfl, by kernel_rfl, by kernel_rfl⟩
theorem d2_35_2 : dB S2_35 2 S2_45 = true := Y6_g4.1
theorem d2_35_3 : dB S2_35 3 S2_45 = true := Y6_g4.2.1
theorem u2_36 : undB S2_36 3 = true := Y6_g4.2.2.1
theorem d2_36_0 : dB S2_36 0 S2_45 = true := Y6_g4.2.2.2.1
theorem d2_36_1 : dB S2_36 1 S2_46 = true := Y6_g4.2.2.2.2.1
theorem d2_36_2 : dB S2_36 2 S2_46 = true := Y6_g4.2.2.2.2.2.1
theorem u2_37 : undB S2_37 2 = true := Y6_g4.2.2.2.2.2.2.1
theorem d2_37_0 : dB S2_37 0 S2_46 = true := Y6_g4.2.2.2.2.2.2.2
set_option maxRecDepth 1000000 in
theorem Y6_g5 : (dB S2_37 1 S2_46 = true) ∧ (undB S2_38 5 = true) ∧ (dB S2_38 0 S2_47 = true) ∧ (dB S2_38 1 S2_48 = true) ∧ (dB S2_38 2 S2_48 = true) ∧ (dB S2_38 3 S2_48 = true) ∧ (dB S2_38 4 S2_48 = true) ∧ (undB S2_39 4 = true) := ⟨by kernel_rfl, by kernel_rfl, by kernel_rfl, by kernel_rfl, by kernel_rfl, by kernel_rfl, by kernel_rfl, by kernel_rfl⟩
theorem d2_37_1 : dB S2_37 1 S2_46 = true := Y6_g5.1
theorem u2_38 : undB S2_38 5 = true := Y6_g5.2.1
theorem d2_38_0 : dB S2_38 0 S2_47 = true := Y6_g5.2.2.1
theorem d2_38_1 : dB S2_38 1 S2_48 = true := Y6_g5.2.2.2.1
theorem d2_38_2 : dB S2_38 2 S2_48 = true := Y6_g5.2.2.2.2.1
theorem d2_38_3 : dB S2_38 3 S2_48 = true := Y6_g5.2.2.2.2.2.1
theorem d2_38_4 : dB S2_38 4 S2_48 = true := Y6_g5.2.2.2.2.2.2.1
theorem u2_39 : undB S2_39 4 = true := Y6_g5.2.2.2.2.2.2.2
set_option maxRecDepth 1000000 in
theorem Y6_g6 : (dB S2_39 0 S2_48 = true) ∧ (dB S2_39 1 S2_48 = true) ∧ (dB S2_39 2 S2_49 = true) ∧ (dB S2_39 3 S2_49 = true) ∧ (undB S2_40 3 = true) ∧ (dB S2_40 0 S2_49 = true) := ⟨by kernel_rfl, by kernel_rfl, by kernel_rfl, by kernel_rfl, by kernel_rfl, by kernel_rfl⟩
theorem d2_39_0 : dB S2_39 0 S2_48 = true := Y6_g6.1
theorem d2_39_1 : dB S2_39 1 S2_48 = true := Y6_g6.2.1
theorem d2_39_2 : dB S2_39 2 S2_49 = true := Y6_g6.2.2.1
theorem d2_39_3 : dB S2_39 3 S2_49 = true := Y6_g6.2.2.2.1
theorem u2_40 : undB S2_40 3 = true := Y6_g6.2.2.2.2.1
theorem d2_40_0 : dB S2_40 0 S2_49 = true := Y6_g6.2.2.2.2.2
set_option maxRecDepth 1000000 in
theorem Y6_g7 : (dB S2_40 1 S2_49 = true) ∧ (dB S2_40 2 S2_49 = true) ∧ (undB S2_41 6 = true) ∧ (dB S2_41 0 S2_50 = true) ∧ (dB S2_41 1 S2_50 = true) := ⟨by kernel_rfl, by kernel_rfl, by kernel_rfl, by kernel_rfl, by kernel_rfl⟩
theorem d2_40_1 : dB S2_40 1 S2_49 = true := Y6_g7.1
theorem d2_40_2 : dB S2_40 2 S2_49 = true := Y6_g7.2.1
theorem u2_41 : undB S2_41 6 = true := Y6_g7.2.2.1
theorem d2_41_0 : dB S2_41 0 S2_50 = true := Y6_g7.2.2.2.1
theorem d2_41_1 : dB S2_41 1 S2_50 = true := Y6_g7.2.2.2.2
set_option maxRecDepth 1000000 in
theorem Y6_g8 : (dB S2_41 2 S2_51 = true) ∧ (dB S2_41 3 S2_51 = true) ∧ (dB S2_41 4 S2_51 = true) ∧ (dB S2_41 5 S2_51 = true) ∧ (undB S2_42 5 = true) ∧ (dB S2_42 0 S2_51 = true) ∧ (dB S2_42 1 S2_51 = true) := ⟨by kernel_rfl, by kernel_rfl, by kernel_rfl, by kernel_rfl, by kernel_rfl, by kernel_rfl, by kernel_rfl⟩
theorem d2_41_2 : dB S2_41 2 S2_51 = true := Y6_g8.1
theorem d2_41_3 : dB S2_41 3 S2_51 = true := Y6_g8.2.1
theorem d2_41_4 : dB S2_41 4 S2_51 = true := Y6_g8.2.2.1
theorem d2_41_5 : dB S2_41 5 S2_51 = true := Y6_g8.2.2.2.1
theorem u2_42 : undB S2_42 5 = true := Y6_g8.2.2.2.2.1
theorem d2_42_0 : dB S2_42 0 S2_51 = true := Y6_g8.2.2.2.2.2.1
theorem d2_42_1 : dB S2_42 1 S2_51 = true := Y6_g8.2.2.2.2.2.2
set_option maxRecDepth 1000000 in
theorem Y6_g9 : (dB S2_42 2 S2_51 = true) ∧ (dB S2_42 3 S2_52 = true) ∧ (dB S2_42 4 S2_52 = true) ∧ (undB S2_43 4 = true) ∧ (dB S2_43 0 S2_52 = true) ∧ (dB S2_43 1 S2_52 = true) := ⟨by kernel_rfl, by kernel_rfl, by kernel_rfl, by kernel_rfl, by kernel_rfl, by kernel_rfl⟩
theorem d2_42_2 : dB S2_42 2 S2_51 = true := Y6_g9.1
theorem d2_42_3 : dB S2_42 3 S2_52 = true := Y6_g9.2.1
theorem d2_42_4 : dB S2_42 4 S2_52 = true := Y6_g9.2.2.1
theorem u2_43 : undB S2_43 4 = true := Y6_g9.2.2.2.1
theorem d2_43_0 : dB S2_43 0 S2_52 = true := Y6_g9.2.2.2.2.1
theorem d2_43_1 : dB S2_43 1 S2_52 = true := Y6_g9.2.2.2.2.2

end Go.Proofs.YtaceajadklmddaaGreat
