/- The law ShellStates: lines (3). -/
import Derived.Test.YtoignhfhljlnbaaGreatDoorXn0
namespace Go.Proofs.YtoignhfhljlnbaaGreatDoor
open Go Go.Cx Go.RowKit

set_option maxRecDepth 1000000 in
theorem Y3s0 : (nD 1 T6 = 357) ∧ (okN 357 X113 y6_0 (start113 1 T6 35 4 1) = true) := ⟨by kernel_rfl, by kernel_rfl⟩
theorem y6_b : nD 1 T6 = 357 := Y3s0.1
theorem y6_0_h : okN 357 X113 y6_0 (start113 1 T6 35 4 1) = true := Y3s0.2
set_option maxRecDepth 1000000 in
theorem y6_1_h : okN 357 X113 y6_1 (go113 y6_0 2) = true := by kernel_rfl
set_option maxRecDepth 1000000 in
theorem Y3s2 : (okN 357 X113 y6_2 (go113 y6_1 1) = true) ∧ (rn113 xS (envD X113 y6_2) (WD X113 y6_2) = .ex 0 (exE (rn113 xS (envD X113 y6_2) (WD X113 y6_2))) (WD X113 y6_2)) ∧ (ending Tryz.prog cf0 100000 113 ⟨bld (lD 1 T6), nD 1 T6, [], .off⟩ (.go (exE (rn113 xS (envD X113 y6_2) (WD X113 y6_2))) (WD X113 y6_2)) = .ok (.tuple #[]) ⟨bld (lD X113 y6_2), nD X113 y6_2, [], .off⟩) := ⟨by kernel_rfl, by kernel_rfl, by kernel_rfl⟩
theorem y6_2_h : okN 357 X113 y6_2 (go113 y6_1 1) = true := Y3s2.1
theorem y6_l : rn113 xS (envD X113 y6_2) (WD X113 y6_2) = .ex 0 (exE (rn113 xS (envD X113 y6_2) (WD X113 y6_2))) (WD X113 y6_2) := Y3s2.2.1
theorem y6_e : ending Tryz.prog cf0 100000 113 ⟨bld (lD 1 T6), nD 1 T6, [], .off⟩ (.go (exE (rn113 xS (envD X113 y6_2) (WD X113 y6_2))) (WD X113 y6_2)) = .ok (.tuple #[]) ⟨bld (lD X113 y6_2), nD X113 y6_2, [], .off⟩ := Y3s2.2.2
theorem y6_S {gB : Gh} {wB : World} : CallS Tryz.prog gB wB 113 [.pointer (some ⟨35, 0, none⟩), numV 4] (lD 1 T6) (nD 1 T6) (.tuple #[]) (lD X113 y6_2) (nD X113 y6_2) := by
  refine sync_start (x := T6) (y := y6_0) y6_b y6_0_h ?_
  refine sync_go (x := y6_0) (y := y6_1) ?_ y6_1_h ?_
  · exact Wn y6_b
  refine sync_go (x := y6_1) (y := y6_2) ?_ y6_2_h ?_
  · exact Wn y6_b
  exact sync_last (x := y6_2) y6_l y6_e
noncomputable def y6_o : FuncId → List Value → W → Option Re := orcF 113 [.pointer (some ⟨35, 0, none⟩), numV 4] (lD 1 T6) (nD 1 T6) (.tuple #[]) (lD X113 y6_2) (nD X113 y6_2)
theorem y6_ok {T : List Value} {wB : World} : OrcOkH Tryz.prog (symG T) wB y6_o := orcF_ok y6_S
set_option maxRecDepth 1000000 in
theorem Y3l0 : (nD 1 S11 = 347) ∧ (okN 347 X10 z11 (in10 y6_o 8 [.pointer (some ⟨88, 0, none⟩), .string ⟨⟨[115, 121, 110, 99, 32, 52]⟩⟩] (WD 1 S11)) = true) ∧ (ending Tryz.prog cf0 100000 10 ⟨bld (lD 1 S11), nD 1 S11, [], .off⟩ (rn10 (dropSeq 8 c10) (envD X10 z11) (WD X10 z11)) = .ok (.string ⟨⟨[111, 107]⟩⟩) ⟨bld (lD X10 z11), nD X10 z11, [], .off⟩) ∧ (nD 1 S12 = 347) ∧ (okN 347 X10 z12 (in10 o0 8 [.pointer (some ⟨88, 0, none⟩), .string ⟨⟨[108, 111, 115, 101, 32, 50]⟩⟩] (WD 1 S12)) = true) ∧ (ending Tryz.prog cf0 100000 10 ⟨bld (lD 1 S12), nD 1 S12, [], .off⟩ (rn10 (dropSeq 8 c10) (envD X10 z12) (WD X10 z12)) = .ok (.string ⟨⟨[111, 107]⟩⟩) ⟨bld (lD X10 z12), nD X10 z12, [], .off⟩) := ⟨by kernel_rfl, by kernel_rfl, by kernel_rfl, by kernel_rfl, by kernel_rfl, by kernel_rfl⟩
theorem S11_b : nD 1 S11 = 347 := Y3l0.1
theorem z11_h : okN 347 X10 z11 (in10 y6_o 8 [.pointer (some ⟨88, 0, none⟩), .string ⟨⟨[115, 121, 110, 99, 32, 52]⟩⟩] (WD 1 S11)) = true := Y3l0.2.1
theorem z11_e : ending Tryz.prog cf0 100000 10 ⟨bld (lD 1 S11), nD 1 S11, [], .off⟩ (rn10 (dropSeq 8 c10) (envD X10 z11) (WD X10 z11)) = .ok (.string ⟨⟨[111, 107]⟩⟩) ⟨bld (lD X10 z11), nD X10 z11, [], .off⟩ := Y3l0.2.2.1
theorem S12_b : nD 1 S12 = 347 := Y3l0.2.2.2.1
theorem z12_h : okN 347 X10 z12 (in10 o0 8 [.pointer (some ⟨88, 0, none⟩), .string ⟨⟨[108, 111, 115, 101, 32, 50]⟩⟩] (WD 1 S12)) = true := Y3l0.2.2.2.2.1
theorem z12_e : ending Tryz.prog cf0 100000 10 ⟨bld (lD 1 S12), nD 1 S12, [], .off⟩ (rn10 (dropSeq 8 c10) (envD X10 z12) (WD X10 z12)) = .ok (.string ⟨⟨[111, 107]⟩⟩) ⟨bld (lD X10 z12), nD X10 z12, [], .off⟩ := Y3l0.2.2.2.2.2
theorem l11_S {T : List Value} {wB : World} : CallS Tryz.prog (symG T) wB 10 [.pointer (some ⟨88, 0, none⟩), .string ⟨⟨[115, 121, 110, 99, 32, 52]⟩⟩] (lD 1 S11) (nD 1 S11) (.string ⟨⟨[111, 107]⟩⟩) (lD X10 z11) (nD X10 z11) := call10 (q := 8) (z := z11) (by decide) S11_b y6_ok z11_h z11_e
noncomputable def l11_o : Orc := orcF 10 [.pointer (some ⟨88, 0, none⟩), .string ⟨⟨[115, 121, 110, 99, 32, 52]⟩⟩] (lD 1 S11) (nD 1 S11) (.string ⟨⟨[111, 107]⟩⟩) (lD X10 z11) (nD X10 z11)
theorem l11_ok {T : List Value} {wB : World} : OrcOkH Tryz.prog (symG T) wB l11_o := orcF_ok l11_S
theorem l12_S {T : List Value} {wB : World} : CallS Tryz.prog (symG T) wB 10 [.pointer (some ⟨88, 0, none⟩), .string ⟨⟨[108, 111, 115, 101, 32, 50]⟩⟩] (lD 1 S12) (nD 1 S12) (.string ⟨⟨[111, 107]⟩⟩) (lD X10 z12) (nD X10 z12) := call10 (q := 8) (z := z12) (by decide) S12_b o0_ok z12_h z12_e
noncomputable def l12_o : Orc := orcF 10 [.pointer (some ⟨88, 0, none⟩), .string ⟨⟨[108, 111, 115, 101, 32, 50]⟩⟩] (lD 1 S12) (nD 1 S12) (.string ⟨⟨[111, 107]⟩⟩) (lD X10 z12) (nD X10 z12)
theorem l12_ok {T : List Value} {wB : World} : OrcOkH Tryz.prog (symG T) wB l12_o := orcF_ok l12_S

end Go.Proofs.YtoignhfhljlnbaaGreatDoor
