/- The law WorldTwice: what happens (1). -/
import Derived.Test.YtaceajadklmddaaGreatXn0
namespace Go.Proofs.YtaceajadklmddaaGreat
open Go Go.Cx Go.RowKit

set_option maxRecDepth 1000000 in
theorem Y1_g0 : (dB S1_17 0 S1_26 = true) ∧ (dB S1_17 1 S1_26 = true) ∧ (dB S1_17 2 S1_27 = true) ∧ (dB S1_17 3 S1_27 = true) ∧ (undB S1_18 3 = true) ∧ (dB S1_18 0 S1_27 = true) ∧ (dB S1_18 1 S1_27 = true) := ⟨by kernel_rfl, by kernel_rfl, by kernel_rfl, by kernel_rfl, by kernel_rfl, by kernel_rfl, by kernel_rfl⟩
theorem d1_17_0 : dB S1_17 0 S1_26 = true := Y1_g0.1
theorem d1_17_1 : dB S1_17 1 S1_26 = true := Y1_g0.2.1
theorem d1_17_2 : dB S1_17 2 S1_27 = true := Y1_g0.2.2.1
theorem d1_17_3 : dB S1_17 3 S1_27 = true := Y1_g0.2.2.2.1
theorem u1_18 : undB S1_18 3 = true := Y1_g0.2.2.2.2.1
theorem d1_18_0 : dB S1_18 0 S1_27 = true := Y1_g0.2.2.2.2.2.1
theorem d1_18_1 : dB S1_18 1 S1_27 = true := Y1_g0.2.2.2.2.2.2
set_option maxRecDepth 1000000 in
theorem Y1_g1 : (dB S1_18 2 S1_27 = true) ∧ (undB S1_19 5 = true) ∧ (dB S1_19 0 S1_28 = true) ∧ (dB S1_19 1 S1_28 = true) ∧ (dB S1_19 2 S1_28 = true) ∧ (dB S1_19 3 S1_29 = true) ∧ (dB S1_19 4 S1_29 = true) ∧ (undB S1_20 4 = true) := ⟨by kernel_rfl, by kernel_rfl, by kernel_rfl, by kernel_rfl, by kernel_rfl, by kernel_rfl, by kernel_rfl, by kernel_rfl⟩
theorem d1_18_2 : dB S1_18 2 S1_27 = true := Y1_g1.1
theorem u1_19 : undB S1_19 5 = true := Y1_g1.2.1
theorem d1_19_0 : dB S1_19 0 S1_28 = true := Y1_g1.2.2.1
theorem d1_19_1 : dB S1_19 1 S1_28 = true := Y1_g1.2.2.2.1
theorem d1_19_2 : dB S1_19 2 S1_28 = true := Y1_g1.2.2.2.2.1
theorem d1_19_3 : dB S1_19 3 S1_29 = true := Y1_g1.2.2.2.2.2.1
theorem d1_19_4 : dB S1_19 4 S1_29 = true := Y1_g1.2.2.2.2.2.2.1
theorem u1_20 : undB S1_20 4 = true := Y1_g1.2.2.2.2.2.2.2
set_option maxRecDepth 1000000 in
theorem Y1_g2 : (dB S1_20 0 S1_29 = true) ∧ (dB S1_20 1 S1_29 = true) ∧ (dB S1_20 2 S1_29 = true) ∧ (dB S1_20 3 S1_29 = true) ∧ (undB S1_21 6 = true) ∧ (dB S1_21 0 S1_30 = true) := ⟨by kernel_rfl, by kernel_rfl, by kernel_rfl, by kernel_rfl, by kernel_rfl, by kernel_rfl⟩
theorem d1_20_0 : dB S1_20 0 S1_29 = true := Y1_g2.1
theorem d1_20_1 : dB S1_20 1 S1_29 = true := Y1_g2.2.1
theorem d1_20_2 : dB S1_20 2 S1_29 = true := Y1_g2.2.2.1
theorem d1_20_3 : dB S1_20 3 S1_29 = true := Y1_g2.2.2.2.1
theorem u1_21 : undB S1_21 6 = true := Y1_g2.2.2.2.2.1
theorem d1_21_0 : dB S1_21 0 S1_30 = true := Y1_g2.2.2.2.2.2
set_option maxRecDepth 1000000 in
theorem Y1_g3 : (dB S1_21 1 S1_30 = true) ∧ (dB S1_21 2 S1_30 = true) ∧ (dB S1_21 3 S1_30 = true) ∧ (dB S1_21 4 S1_31 = true) ∧ (dB S1_21 5 S1_31 = true) ∧ (undB S1_22 5 = true) ∧ (dB S1_22 0 S1_31 = true) := ⟨by kernel_rfl, by kernel_rfl, by kernel_rfl, by kernel_rfl, by kernel_rfl, by kernel_rfl, by kernel_rfl⟩
theorem d1_21_1 : dB S1_21 1 S1_30 = true := Y1_g3.1
theorem d1_21_2 : dB S1_21 2 S1_30 = true := Y1_g3.2.1
theorem d1_21_3 : dB S1_21 3 S1_30 = true := Y1_g3.2.2.1
theorem d1_21_4 : dB S1_21 4 S1_31 = true := Y1_g3.2.2.2.1
theorem d1_21_5 : dB S1_21 5 S1_31 = true := Y1_g3.2.2.2.2.1
theorem u1_22 : undB S1_22 5 = true := Y1_g3.2.2.2.2.2.1
theorem d1_22_0 : dB S1_22 0 S1_31 = true := Y1_g3.2.2.2.2.2.2
set_option maxRecDepth 1000000 in
theorem Y1_g4 : (dB S1_22 1 S1_31 = true) ∧ (dB S1_22 2 S1_31 = true) ∧ (dB S1_22 3 S1_31 = true) ∧ (dB S1_22 4 S1_31 = true) ∧ (undB S1_23 1 = true) ∧ (dB S1_23 0 S1_32 = true) ∧ (undB S1_24 3 = true) ∧ (dB S1_24 0 S1_33 = true) := ⟨by kernel_rfl, by kernel_rfl, by kernel_rfl, by kernel_rfl, by kernel_rfl, by kernel_rfl, by kernel_rfl, by kernel_rfl⟩
theorem d1_22_1 : dB S1_22 1 S1_31 = true := Y1_g4.1
theorem d1_22_2 : dB S1_22 2 S1_31 = true := Y1_g4.2.1
theorem d1_22_3 : dB S1_22 3 S1_31 = true := Y1_g4.2.2.1
theorem d1_22_4 : dB S1_22 4 S1_31 = true := Y1_g4.2.2.2.1
theorem u1_23 : undB S1_23 1 = true := Y1_g4.2.2.2.2.1
theorem d1_23_0 : dB S1_23 0 S1_32 = true := Y1_g4.2.2.2.2.2.1
theorem u1_24 : undB S1_24 3 = true := Y1_g4.2.2.2.2.2.2.1
theorem d1_24_0 : dB S1_24 0 S1_33 = true := Y1_g4.2.2.2.2.2.2.2
set_option maxRecDepth 1000000 in
theorem Y1_g5 : (dB S1_24 1 S1_33 = true) ∧ (dB S1_24 2 S1_33 = true) ∧ (undB S1_25 2 = true) ∧ (dB S1_25 0 S1_33 = true) ∧ (dB S1_25 1 S1_34 = true) ∧ (undB S1_26 4 = true) ∧ (dB S1_26 0 S1_35 = true) ∧ (dB S1_26 1 S1_36 = true) ∧ (dB S1_26 2 S1_36 = true) ∧ (dB S1_26 3 S1_36 = true) ∧ (undB S1_27 3 = true) := ⟨by kernel_rfl, by kernel_rfl, by kernel_rfl, by kernel_rfl, by kernel_rfl, by kernel_rfl, by kernel_rfl, by kernel_rfl, by kernel_rfl, by kernel_rfl, by kernel_rfl⟩
theorem d1_24_1 : dB S1_24 1 S1_33 = true := Y1_g5.1
theorem d1_24_2 : dB S1_24 2 S1_33 = true := Y1_g5.2.1
theorem u1_25 : undB S1_25 2 = true := Y1_g5.2.2.1
theorem d1_25_0 : dB S1_25 0 S1_33 = true := Y1_g5.2.2.2.1
theorem d1_25_1 : dB S1_25 1 S1_34 = true := Y1_g5.2.2.2.2.1
theorem u1_26 : undB S1_26 4 = true := Y1_g5.2.2.2.2.2.1
theorem d1_26_0 : dB S1_26 0 S1_35 = true := Y1_g5.2.2.2.2.2.2.1
theorem d1_26_1 : dB S1_26 1 S1_36 = true := Y1_g5.2.2.2.2.2.2.2.1
theorem d1_26_2 : dB S1_26 2 S1_36 = true := Y1_g5.2.2.2.2.2.2.2.2.1
theorem d1_26_3 : dB S1_26 3 S1_36 = true := Y1_g5.2.2.2.2.2.2.2.2.2.1
theorem u1_27 : undB S1_27 3 = true := Y1_g5.2.2.2.2.2.2.2.2.2.2
set_option maxRecDepth 1000000 in
theorem Y1_g6 : (dB S1_27 0 S1_36 = true) ∧ (dB S1_27 1 S1_36 = true) ∧ (dB S1_27 2 S1_37 = true) ∧ (undB S1_28 5 = true) ∧ (dB S1_28 0 S1_38 = true) ∧ (dB S1_28 1 S1_38 = true) ∧ (dB S1_28 2 S1_39 = true) := ⟨by kernel_rfl, by kernel_rfl, by kernel_rfl, by kernel_rfl, by kernel_rfl, by kernel_rfl, by kernel_rfl⟩
theorem d1_27_0 : dB S1_27 0 S1_36 = true := Y1_g6.1
theorem d1_27_1 : dB S1_27 1 S1_36 = true := Y1_g6.2.1
theorem d1_27_2 : dB S1_27 2 S1_37 = true := Y1_g6.2.2.1
theorem u1_28 : undB S1_28 5 = true := Y1_g6.2.2.2.1
theorem d1_28_0 : dB S1_28 0 S1_38 = true := Y1_g6.2.2.2.2.1
theorem d1_28_1 : dB S1_28 1 S1_38 = true := Y1_g6.2.2.2.2.2.1
theorem d1_28_2 : dB S1_28 2 S1_39 = true := Y1_g6.2.2.2.2.2.2
set_option maxRecDepth 1000000 in
theorem Y1_g7 : (dB S1_28 3 S1_39 = true) ∧ (dB S1_28 4 S1_39 = true) ∧ (undB S1_29 4 = true) ∧ (dB S1_29 0 S1_39 = true) ∧ (dB S1_29 1 S1_39 = true) ∧ (dB S1_29 2 S1_39 = true) ∧ (dB S1_29 3 S1_40 = true) ∧ (undB S1_30 6 = true) := ⟨by kernel_rfl, by kernel_rfl, by kernel_rfl, by kernel_rfl, by kernel_rfl, by kernel_rfl, by kernel_rfl, by kernel_rfl⟩
theorem d1_28_3 : dB S1_28 3 S1_39 = true := Y1_g7.1
theorem d1_28_4 : dB S1_28 4 S1_39 = true := Y1_g7.2.1
theorem u1_29 : undB S1_29 4 = true := Y1_g7.2.2.1
theorem d1_29_0 : dB S1_29 0 S1_39 = true := Y1_g7.2.2.2.1
theorem d1_29_1 : dB S1_29 1 S1_39 = true := Y1_g7.2.2.2.2.1
theorem d1_29_2 : dB S1_29 2 S1_39 = true := Y1_g7.2.2.2.2.2.1
theorem d1_29_3 : dB S1_29 3 S1_40 = true := Y1_g7.2.2.2.2.2.2.1
theorem u1_30 : undB S1_30 6 = true := Y1_g7.2.2.2.2.2.2.2
set_option maxRecDepth 1000000 in
theorem Y1_g8 : (dB S1_30 0 S1_41 = true) ∧ (dB S1_30 1 S1_41 = true) ∧ (dB S1_30 2 S1_41 = true) ∧ (dB S1_30 3 S1_42 = true) ∧ (dB S1_30 4 S1_42 = true) ∧ (dB S1_30 5 S1_42 = true) ∧ (undB S1_31 5 = true) := ⟨by kernel_rfl, by kernel_rfl, by kernel_rfl, by kernel_rfl, by kernel_rfl, by kernel_rfl, by kernel_rfl⟩
theorem d1_30_0 : dB S1_30 0 S1_41 = true := Y1_g8.1
theorem d1_30_1 : dB S1_30 1 S1_41 = true := Y1_g8.2.1
theorem d1_30_2 : dB S1_30 2 S1_41 = true := Y1_g8.2.2.1
theorem d1_30_3 : dB S1_30 3 S1_42 = true := Y1_g8.2.2.2.1
theorem d1_30_4 : dB S1_30 4 S1_42 = true := Y1_g8.2.2.2.2.1
theorem d1_30_5 : dB S1_30 5 S1_42 = true := Y1_g8.2.2.2.2.2.1
theorem u1_31 : undB S1_31 5 = true := Y1_g8.2.2.2.2.2.2
set_option maxRecDepth 1000000 in
theorem Y1_g9 : (dB S1_31 0 S1_42 = true) ∧ (dB S1_31 1 S1_42 = true) ∧ (dB S1_31 2 S1_42 = true) ∧ (dB S1_31 3 S1_42 = true) ∧ (dB S1_31 4 S1_43 = true) ∧ (undB S1_32 0 = true) ∧ (undB S1_33 2 = true) := ⟨by kernel_rfl, by kernel_rfl, by kernel_rfl, by kernel_rfl, by kernel_rfl, by kernel_rfl, by kernel_rfl⟩
theorem d1_31_0 : dB S1_31 0 S1_42 = true := Y1_g9.1
theorem d1_31_1 : dB S1_31 1 S1_42 = true := Y1_g9.2.1
theorem d1_31_2 : dB S1_31 2 S1_42 = true := Y1_g9.2.2.1
theorem d1_31_3 : dB S1_31 3 S1_42 = true := Y1_g9.2.2.2.1
theorem d1_31_4 : dB S1_31 4 S1_43 = true := Y1_g9.2.2.2.2.1
theorem u1_32 : undB S1_32 0 = true := Y1_g9.2.2.2.2.2.1
theorem u1_33 : undB S1_33 2 = true := Y1_g9.2.2.2.2.2.2

end Go.Proofs.YtaceajadklmddaaGreat
