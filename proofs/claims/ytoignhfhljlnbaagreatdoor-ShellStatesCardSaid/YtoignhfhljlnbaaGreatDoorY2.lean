/- The law ShellStates: lines (2). -/
import Derived.Test.YtoignhfhljlnbaaGreatDoorXn0
namespace Go.Proofs.YtoignhfhljlnbaaGreatDoor
open Go Go.Cx Go.RowKit

set_option maxRecDepth 1000000 in
theorem Y2s0 : (nD 1 T4 = 344) ∧ (okN 344 X113 y4_0 (start113 1 T4 35 4 2) = true) := ⟨by kernel_rfl, by kernel_rfl⟩
theorem y4_b : nD 1 T4 = 344 := Y2s0.1
theorem y4_0_h : okN 344 X113 y4_0 (start113 1 T4 35 4 2) = true := Y2s0.2
set_option maxRecDepth 1000000 in
theorem Y2s1 : (okN 344 X113 y4_1 (go113 y4_0 2) = true) ∧ (rn113 xS (envD X113 y4_1) (WD X113 y4_1) = .ex 0 (exE (rn113 xS (envD X113 y4_1) (WD X113 y4_1))) (WD X113 y4_1)) ∧ (ending Tryz.prog cf0 100000 113 ⟨bld (lD 1 T4), nD 1 T4, [], .off⟩ (.go (exE (rn113 xS (envD X113 y4_1) (WD X113 y4_1))) (WD X113 y4_1)) = .ok (.tuple #[]) ⟨bld (lD X113 y4_1), nD X113 y4_1, [], .off⟩) := ⟨by kernel_rfl, by kernel_rfl, by kernel_rfl⟩
theorem y4_1_h : okN 344 X113 y4_1 (go113 y4_0 2) = true := Y2s1.1
theorem y4_l : rn113 xS (envD X113 y4_1) (WD X113 y4_1) = .ex 0 (exE (rn113 xS (envD X113 y4_1) (WD X113 y4_1))) (WD X113 y4_1) := Y2s1.2.1
theorem y4_e : ending Tryz.prog cf0 100000 113 ⟨bld (lD 1 T4), nD 1 T4, [], .off⟩ (.go (exE (rn113 xS (envD X113 y4_1) (WD X113 y4_1))) (WD X113 y4_1)) = .ok (.tuple #[]) ⟨bld (lD X113 y4_1), nD X113 y4_1, [], .off⟩ := Y2s1.2.2
set_option maxRecDepth 1000000 in
theorem Y2s2 : (nD 1 T5 = 369) ∧ (okN 369 X113 y5_0 (start113 1 T5 35 3 3) = true) ∧ (rn113 xS (envD X113 y5_0) (WD X113 y5_0) = .ex 0 (exE (rn113 xS (envD X113 y5_0) (WD X113 y5_0))) (WD X113 y5_0)) ∧ (ending Tryz.prog cf0 100000 113 ⟨bld (lD 1 T5), nD 1 T5, [], .off⟩ (.go (exE (rn113 xS (envD X113 y5_0) (WD X113 y5_0))) (WD X113 y5_0)) = .ok (.tuple #[]) ⟨bld (lD X113 y5_0), nD X113 y5_0, [], .off⟩) := ⟨by kernel_rfl, by kernel_rfl, by kernel_rfl, by kernel_rfl⟩
theorem y5_b : nD 1 T5 = 369 := Y2s2.1
theorem y5_0_h : okN 369 X113 y5_0 (start113 1 T5 35 3 3) = true := Y2s2.2.1
theorem y5_l : rn113 xS (envD X113 y5_0) (WD X113 y5_0) = .ex 0 (exE (rn113 xS (envD X113 y5_0) (WD X113 y5_0))) (WD X113 y5_0) := Y2s2.2.2.1
theorem y5_e : ending Tryz.prog cf0 100000 113 ⟨bld (lD 1 T5), nD 1 T5, [], .off⟩ (.go (exE (rn113 xS (envD X113 y5_0) (WD X113 y5_0))) (WD X113 y5_0)) = .ok (.tuple #[]) ⟨bld (lD X113 y5_0), nD X113 y5_0, [], .off⟩ := Y2s2.2.2.2
theorem y4_S {gB : Gh} {wB : World} : CallS Tryz.prog gB wB 113 [.pointer (some ⟨35, 0, none⟩), numV 4] (lD 1 T4) (nD 1 T4) (.tuple #[]) (lD X113 y4_1) (nD X113 y4_1) := by
  refine sync_start (x := T4) (y := y4_0) y4_b y4_0_h ?_
  refine sync_go (x := y4_0) (y := y4_1) ?_ y4_1_h ?_
  · exact Wn y4_b
  exact sync_last (x := y4_1) y4_l y4_e
noncomputable def y4_o : FuncId → List Value → W → Option Re := orcF 113 [.pointer (some ⟨35, 0, none⟩), numV 4] (lD 1 T4) (nD 1 T4) (.tuple #[]) (lD X113 y4_1) (nD X113 y4_1)
theorem y4_ok {T : List Value} {wB : World} : OrcOkH Tryz.prog (symG T) wB y4_o := orcF_ok y4_S
theorem y5_S {gB : Gh} {wB : World} : CallS Tryz.prog gB wB 113 [.pointer (some ⟨35, 0, none⟩), numV 3] (lD 1 T5) (nD 1 T5) (.tuple #[]) (lD X113 y5_0) (nD X113 y5_0) := by
  refine sync_start (x := T5) (y := y5_0) y5_b y5_0_h ?_
  exact sync_last (x := y5_0) y5_l y5_e
noncomputable def y5_o : FuncId → List Value → W → Option Re := orcF 113 [.pointer (some ⟨35, 0, none⟩), numV 3] (lD 1 T5) (nD 1 T5) (.tuple #[]) (lD X113 y5_0) (nD X113 y5_0)
theorem y5_ok {T : List Value} {wB : World} : OrcOkH Tryz.prog (symG T) wB y5_o := orcF_ok y5_S
set_option maxRecDepth 1000000 in
theorem Y2l0 : (nD 1 S7 = 334) ∧ (okN 334 X10 z7 (in10 y4_o 8 [.pointer (some ⟨88, 0, none⟩), .string ⟨⟨[115, 121, 110, 99, 32, 52]⟩⟩] (WD 1 S7)) = true) ∧ (ending Tryz.prog cf0 100000 10 ⟨bld (lD 1 S7), nD 1 S7, [], .off⟩ (rn10 (dropSeq 8 c10) (envD X10 z7) (WD X10 z7)) = .ok (.string ⟨⟨[111, 107]⟩⟩) ⟨bld (lD X10 z7), nD X10 z7, [], .off⟩) ∧ (nD 1 S8 = 334) ∧ (okN 334 X10 z8 (in10 o0 8 [.pointer (some ⟨88, 0, none⟩), .string ⟨⟨[108, 111, 115, 101, 32, 50]⟩⟩] (WD 1 S8)) = true) ∧ (ending Tryz.prog cf0 100000 10 ⟨bld (lD 1 S8), nD 1 S8, [], .off⟩ (rn10 (dropSeq 8 c10) (envD X10 z8) (WD X10 z8)) = .ok (.string ⟨⟨[111, 107]⟩⟩) ⟨bld (lD X10 z8), nD X10 z8, [], .off⟩) ∧ (nD 1 S9 = 359) ∧ (okN 359 X10 z9 (in10 y5_o 8 [.pointer (some ⟨88, 0, none⟩), .string ⟨⟨[115, 121, 110, 99, 32, 51]⟩⟩] (WD 1 S9)) = true) ∧ (ending Tryz.prog cf0 100000 10 ⟨bld (lD 1 S9), nD 1 S9, [], .off⟩ (rn10 (dropSeq 8 c10) (envD X10 z9) (WD X10 z9)) = .ok (.string ⟨⟨[111, 107]⟩⟩) ⟨bld (lD X10 z9), nD X10 z9, [], .off⟩) ∧ (nD 1 S10 = 290) ∧ (okN 290 X10 z10 (in10 o0 8 [.pointer (some ⟨88, 0, none⟩), .string ⟨⟨[100, 111, 32, 50, 32, 50, 32, 53, 32, 34, 34, 32, 116, 32, 49]⟩⟩] (WD 1 S10)) = true) ∧ (ending Tryz.prog cf0 100000 10 ⟨bld (lD 1 S10), nD 1 S10, [], .off⟩ (rn10 (dropSeq 8 c10) (envD X10 z10) (WD X10 z10)) = .ok (.string ⟨⟨[111, 107]⟩⟩) ⟨bld (lD X10 z10), nD X10 z10, [], .off⟩) := ⟨by kernel_rfl, by kernel_rfl, by kernel_rfl, by kernel_rfl, by kernel_rfl, by kernel_rfl, by kernel_rfl, by kernel_rfl, by kernel_rfl, by kernel_rfl, by kernel_rfl, by kernel_rfl⟩
theorem S7_b : nD 1 S7 = 334 := Y2l0.1
theorem z7_h : okN 334 X10 z7 (in10 y4_o 8 [.pointer (some ⟨88, 0, none⟩), .string ⟨⟨[115, 121, 110, 99, 32, 52]⟩⟩] (WD 1 S7)) = true := Y2l0.2.1
theorem z7_e : ending Tryz.prog cf0 100000 10 ⟨bld (lD 1 S7), nD 1 S7, [], .off⟩ (rn10 (dropSeq 8 c10) (envD X10 z7) (WD X10 z7)) = .ok (.string ⟨⟨[111, 107]⟩⟩) ⟨bld (lD X10 z7), nD X10 z7, [], .off⟩ := Y2l0.2.2.1
theorem S8_b : nD 1 S8 = 334 := Y2l0.2.2.2.1
theorem z8_h : okN 334 X10 z8 (in10 o0 8 [.pointer (some ⟨88, 0, none⟩), .string ⟨⟨[108, 111, 115, 101, 32, 50]⟩⟩] (WD 1 S8)) = true := Y2l0.2.2.2.2.1
theorem z8_e : ending Tryz.prog cf0 100000 10 ⟨bld (lD 1 S8), nD 1 S8, [], .off⟩ (rn10 (dropSeq 8 c10) (envD X10 z8) (WD X10 z8)) = .ok (.string ⟨⟨[111, 107]⟩⟩) ⟨bld (lD X10 z8), nD X10 z8, [], .off⟩ := Y2l0.2.2.2.2.2.1
theorem S9_b : nD 1 S9 = 359 := Y2l0.2.2.2.2.2.2.1
theorem z9_h : okN 359 X10 z9 (in10 y5_o 8 [.pointer (some ⟨88, 0, none⟩), .string ⟨⟨[115, 121, 110, 99, 32, 51]⟩⟩] (WD 1 S9)) = true := Y2l0.2.2.2.2.2.2.2.1
theorem z9_e : ending Tryz.prog cf0 100000 10 ⟨bld (lD 1 S9), nD 1 S9, [], .off⟩ (rn10 (dropSeq 8 c10) (envD X10 z9) (WD X10 z9)) = .ok (.string ⟨⟨[111, 107]⟩⟩) ⟨bld (lD X10 z9), nD X10 z9, [], .off⟩ := Y2l0.2.2.2.2.2.2.2.2.1
theorem S10_b : nD 1 S10 = 290 := Y2l0.2.2.2.2.2.2.2.2.2.1
theorem z10_h : okN 290 X10 z10 (in10 o0 8 [.pointer (some ⟨88, 0, none⟩), .string ⟨⟨[100, 111, 32, 50, 32, 50, 32, 53, 32, 34, 34, 32, 116, 32, 49]⟩⟩] (WD 1 S10)) = true := Y2l0.2.2.2.2.2.2.2.2.2.2.1
theorem z10_e : ending Tryz.prog cf0 100000 10 ⟨bld (lD 1 S10), nD 1 S10, [], .off⟩ (rn10 (dropSeq 8 c10) (envD X10 z10) (WD X10 z10)) = .ok (.string ⟨⟨[111, 107]⟩⟩) ⟨bld (lD X10 z10), nD X10 z10, [], .off⟩ := Y2l0.2.2.2.2.2.2.2.2.2.2.2
theorem l7_S {T : List Value} {wB : World} : CallS Tryz.prog (symG T) wB 10 [.pointer (some ⟨88, 0, none⟩), .string ⟨⟨[115, 121, 110, 99, 32, 52]⟩⟩] (lD 1 S7) (nD 1 S7) (.string ⟨⟨[111, 107]⟩⟩) (lD X10 z7) (nD X10 z7) := call10 (q := 8) (z := z7) (by decide) S7_b y4_ok z7_h z7_e
noncomputable def l7_o : Orc := orcF 10 [.pointer (some ⟨88, 0, none⟩), .string ⟨⟨[115, 121, 110, 99, 32, 52]⟩⟩] (lD 1 S7) (nD 1 S7) (.string ⟨⟨[111, 107]⟩⟩) (lD X10 z7) (nD X10 z7)
theorem l7_ok {T : List Value} {wB : World} : OrcOkH Tryz.prog (symG T) wB l7_o := orcF_ok l7_S
theorem l8_S {T : List Value} {wB : World} : CallS Tryz.prog (symG T) wB 10 [.pointer (some ⟨88, 0, none⟩), .string ⟨⟨[108, 111, 115, 101, 32, 50]⟩⟩] (lD 1 S8) (nD 1 S8) (.string ⟨⟨[111, 107]⟩⟩) (lD X10 z8) (nD X10 z8) := call10 (q := 8) (z := z8) (by decide) S8_b o0_ok z8_h z8_e
noncomputable def l8_o : Orc := orcF 10 [.pointer (some ⟨88, 0, none⟩), .string ⟨⟨[108, 111, 115, 101, 32, 50]⟩⟩] (lD 1 S8) (nD 1 S8) (.string ⟨⟨[111, 107]⟩⟩) (lD X10 z8) (nD X10 z8)
theorem l8_ok {T : List Value} {wB : World} : OrcOkH Tryz.prog (symG T) wB l8_o := orcF_ok l8_S
theorem l9_S {T : List Value} {wB : World} : CallS Tryz.prog (symG T) wB 10 [.pointer (some ⟨88, 0, none⟩), .string ⟨⟨[115, 121, 110, 99, 32, 51]⟩⟩] (lD 1 S9) (nD 1 S9) (.string ⟨⟨[111, 107]⟩⟩) (lD X10 z9) (nD X10 z9) := call10 (q := 8) (z := z9) (by decide) S9_b y5_ok z9_h z9_e
noncomputable def l9_o : Orc := orcF 10 [.pointer (some ⟨88, 0, none⟩), .string ⟨⟨[115, 121, 110, 99, 32, 51]⟩⟩] (lD 1 S9) (nD 1 S9) (.string ⟨⟨[111, 107]⟩⟩) (lD X10 z9) (nD X10 z9)
theorem l9_ok {T : List Value} {wB : World} : OrcOkH Tryz.prog (symG T) wB l9_o := orcF_ok l9_S
theorem l10_S {T : List Value} {wB : World} : CallS Tryz.prog (symG T) wB 10 [.pointer (some ⟨88, 0, none⟩), .string ⟨⟨[100, 111, 32, 50, 32, 50, 32, 53, 32, 34, 34, 32, 116, 32, 49]⟩⟩] (lD 1 S10) (nD 1 S10) (.string ⟨⟨[111, 107]⟩⟩) (lD X10 z10) (nD X10 z10) := call10 (q := 8) (z := z10) (by decide) S10_b o0_ok z10_h z10_e
noncomputable def l10_o : Orc := orcF 10 [.pointer (some ⟨88, 0, none⟩), .string ⟨⟨[100, 111, 32, 50, 32, 50, 32, 53, 32, 34, 34, 32, 116, 32, 49]⟩⟩] (lD 1 S10) (nD 1 S10) (.string ⟨⟨[111, 107]⟩⟩) (lD X10 z10) (nD X10 z10)
theorem l10_ok {T : List Value} {wB : World} : OrcOkH Tryz.prog (symG T) wB l10_o := orcF_ok l10_S

end Go.Proofs.YtoignhfhljlnbaaGreatDoor
