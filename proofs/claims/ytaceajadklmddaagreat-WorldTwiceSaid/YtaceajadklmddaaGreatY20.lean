/- The law WorldTwice: what happens (20). -/
import Derived.Test.YtaceajadklmddaaGreatXn0
namespace Go.Proofs.YtaceajadklmddaaGreat
open Go Go.Cx Go.RowKit

set_option maxRecDepth 1000000 in
theorem Y20_g0 : (dB S4_71 0 S4_75 = true) ∧ (undB S4_72 4 = true) ∧ (dB S4_72 0 S4_76 = true) ∧ (dB S4_72 1 S4_76 = true) ∧ (dB S4_72 2 S4_76 = true) ∧ (dB S4_72 3 S4_76 = true) ∧ (undB S4_73 3 = true) := ⟨by kernel_rfl, by kernel_rfl, by kernel_rfl, by kernel_rfl, by kernel_rfl, by kernel_rfl, by kernel_rfl⟩
theorem d4_71_0 : dB S4_71 0 S4_75 = true := Y20_g0.1
theorem u4_72 : undB S4_72 4 = true := Y20_g0.2.1
theorem d4_72_0 : dB S4_72 0 S4_76 = true := Y20_g0.2.2.1
theorem d4_72_1 : dB S4_72 1 S4_76 = true := Y20_g0.2.2.2.1
theorem d4_72_2 : dB S4_72 2 S4_76 = true := Y20_g0.2.2.2.2.1
theorem d4_72_3 : dB S4_72 3 S4_76 = true := Y20_g0.2.2.2.2.2.1
theorem u4_73 : undB S4_73 3 = true := Y20_g0.2.2.2.2.2.2
set_option maxRecDepth 1000000 in
theorem Y20_g1 : (dB S4_73 0 S4_76 = true) ∧ (dB S4_73 1 S4_77 = true) ∧ (dB S4_73 2 S4_77 = true) ∧ (undB S4_74 2 = true) ∧ (dB S4_74 0 S4_77 = true) := ⟨by kernel_rfl, by kernel_rfl, by kernel_rfl, by kernel_rfl, by kernel_rfl⟩
theorem d4_73_0 : dB S4_73 0 S4_76 = true := Y20_g1.1
theorem d4_73_1 : dB S4_73 1 S4_77 = true := Y20_g1.2.1
theorem d4_73_2 : dB S4_73 2 S4_77 = true := Y20_g1.2.2.1
theorem u4_74 : undB S4_74 2 = true := Y20_g1.2.2.2.1
theorem d4_74_0 : dB S4_74 0 S4_77 = true := Y20_g1.2.2.2.2
set_option maxRecDepth 1000000 in
theorem Y20_g2 : (dB S4_74 1 S4_77 = true) ∧ (undB S4_75 1 = true) ∧ (dB S4_75 0 S4_78 = true) ∧ (undB S4_76 3 = true) ∧ (dB S4_76 0 S4_79 = true) ∧ (dB S4_76 1 S4_79 = true) ∧ (dB S4_76 2 S4_79 = true) ∧ (undB S4_77 2 = true) := ⟨by kernel_rfl, by kernel_rfl, by kernel_rfl, by kernel_rfl, by kernel_rfl, by kernel_rfl, by kernel_rfl, by kernel_rfl⟩
theorem d4_74_1 : dB S4_74 1 S4_77 = true := Y20_g2.1
theorem u4_75 : undB S4_75 1 = true := Y20_g2.2.1
theorem d4_75_0 : dB S4_75 0 S4_78 = true := Y20_g2.2.2.1
theorem u4_76 : undB S4_76 3 = true := Y20_g2.2.2.2.1
theorem d4_76_0 : dB S4_76 0 S4_79 = true := Y20_g2.2.2.2.2.1
theorem d4_76_1 : dB S4_76 1 S4_79 = true := Y20_g2.2.2.2.2.2.1
theorem d4_76_2 : dB S4_76 2 S4_79 = true := Y20_g2.2.2.2.2.2.2.1
theorem u4_77 : undB S4_77 2 = true := Y20_g2.2.2.2.2.2.2.2
set_option maxRecDepth 1000000 in
theorem Y20_g3 : (dB S4_77 0 S4_79 = true) ∧ (dB S4_77 1 S4_80 = true) ∧ (undB S4_78 0 = true) ∧ (undB S4_79 2 = true) ∧ (dB S4_79 0 S4_81 = true) ∧ (dB S4_79 1 S4_81 = true) ∧ (undB S4_80 1 = true) := ⟨by kernel_rfl, by kernel_rfl, by kernel_rfl, by kernel_rfl, by kernel_rfl, by kernel_rfl, by kernel_rfl⟩
theorem d4_77_0 : dB S4_77 0 S4_79 = true := Y20_g3.1
theorem d4_77_1 : dB S4_77 1 S4_80 = true := Y20_g3.2.1
theorem u4_78 : undB S4_78 0 = true := Y20_g3.2.2.1
theorem u4_79 : undB S4_79 2 = true := Y20_g3.2.2.2.1
theorem d4_79_0 : dB S4_79 0 S4_81 = true := Y20_g3.2.2.2.2.1
theorem d4_79_1 : dB S4_79 1 S4_81 = true := Y20_g3.2.2.2.2.2.1
theorem u4_80 : undB S4_80 1 = true := Y20_g3.2.2.2.2.2.2
set_option maxRecDepth 1000000 in
theorem Y20_g4 : (dB S4_80 0 S4_81 = true) ∧ (undB S4_81 1 = true) ∧ (dB S4_81 0 S4_82 = true) ∧ (undB S4_82 0 = true) ∧ (tl 4 S4_12 = true) ∧ (tl 4 S4_32 = true) ∧ (tl 4 S4_53 = true) ∧ (tl 4 S4_69 = true) ∧ (tl 4 S4_78 = true) ∧ (tl 4 S4_82 = true) := ⟨by kernel_rfl, by kernel_rfl, by kernel_rfl, by kernel_rfl, by kernel_rfl, by kernel_rfl, by kernel_rfl, by kernel_rfl, by kernel_rfl, by kernel_rfl⟩
theorem d4_80_0 : dB S4_80 0 S4_81 = true := Y20_g4.1
theorem u4_81 : undB S4_81 1 = true := Y20_g4.2.1
theorem d4_81_0 : dB S4_81 0 S4_82 = true := Y20_g4.2.2.1
theorem u4_82 : undB S4_82 0 = true := Y20_g4.2.2.2.1
theorem t4_12 : tl 4 S4_12 = true := Y20_g4.2.2.2.2.1
theorem t4_32 : tl 4 S4_32 = true := Y20_g4.2.2.2.2.2.1
theorem t4_53 : tl 4 S4_53 = true := Y20_g4.2.2.2.2.2.2.1
theorem t4_69 : tl 4 S4_69 = true := Y20_g4.2.2.2.2.2.2.2.1
theorem t4_78 : tl 4 S4_78 = true := Y20_g4.2.2.2.2.2.2.2.2.1
theorem t4_82 : tl 4 S4_82 = true := Y20_g4.2.2.2.2.2.2.2.2.2

end Go.Proofs.YtaceajadklmddaaGreat
