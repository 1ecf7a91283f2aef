/- The law ShellStates: lines (4). -/
import Derived.Test.YtoignhfhljlnbaaGreatDoorXn0
namespace Go.Proofs.YtoignhfhljlnbaaGreatDoor
open Go Go.Cx Go.RowKit

set_option maxRecDepth 1000000 in
theorem Y4s0 : (nD 1 T7 = 382) ∧ (okN 382 X113 y7_0 (start113 1 T7 35 3 2) = true) := ⟨by kernel_rfl, by kernel_rfl⟩
theorem y7_b : nD 1 T7 = 382 := Y4s0.1
theorem y7_0_h : okN 382 X113 y7_0 (start113 1 T7 35 3 2) = true := Y4s0.2
set_option maxRecDepth 1000000 in
theorem Y4s1 : (okN 382 X113 y7_1 (go113 y7_0 1) = true) ∧ (rn113 xS (envD X113 y7_1) (WD X113 y7_1) = .ex 0 (exE (rn113 xS (envD X113 y7_1) (WD X113 y7_1))) (WD X113 y7_1)) ∧ (ending Tryz.prog cf0 100000 113 ⟨bld (lD 1 T7), nD 1 T7, [], .off⟩ (.go (exE (rn113 xS (envD X113 y7_1) (WD X113 y7_1))) (WD X113 y7_1)) = .ok (.tuple #[]) ⟨bld (lD X113 y7_1), nD X113 y7_1, [], .off⟩) := ⟨by kernel_rfl, by kernel_rfl, by kernel_rfl⟩
theorem y7_1_h : okN 382 X113 y7_1 (go113 y7_0 1) = true := Y4s1.1
theorem y7_l : rn113 xS (envD X113 y7_1) (WD X113 y7_1) = .ex 0 (exE (rn113 xS (envD X113 y7_1) (WD X113 y7_1))) (WD X113 y7_1) := Y4s1.2.1
theorem y7_e : ending Tryz.prog cf0 100000 113 ⟨bld (lD 1 T7), nD 1 T7, [], .off⟩ (.go (exE (rn113 xS (envD X113 y7_1) (WD X113 y7_1))) (WD X113 y7_1)) = .ok (.tuple #[]) ⟨bld (lD X113 y7_1), nD X113 y7_1, [], .off⟩ := Y4s1.2.2
theorem y7_S {gB : Gh} {wB : World} : CallS Tryz.prog gB wB 113 [.pointer (some ⟨35, 0, none⟩), numV 3] (lD 1 T7) (nD 1 T7) (.tuple #[]) (lD X113 y7_1) (nD X113 y7_1) := by
  refine sync_start (x := T7) (y := y7_0) y7_b y7_0_h ?_
  refine sync_go (x := y7_0) (y := y7_1) ?_ y7_1_h ?_
  · exact Wn y7_b
  exact sync_last (x := y7_1) y7_l y7_e
noncomputable def y7_o : FuncId → List Value → W → Option Re := orcF 113 [.pointer (some ⟨35, 0, none⟩), numV 3] (lD 1 T7) (nD 1 T7) (.tuple #[]) (lD X113 y7_1) (nD X113 y7_1)
theorem y7_ok {T : List Value} {wB : World} : OrcOkH Tryz.prog (symG T) wB y7_o := orcF_ok y7_S
set_option maxRecDepth 1000000 in
theorem Y4l0 : (nD 1 S13 = 372) ∧ (okN 372 X10 z13 (in10 y7_o 8 [.pointer (some ⟨88, 0, none⟩), .string ⟨⟨[115, 121, 110, 99, 32, 51]⟩⟩] (WD 1 S13)) = true) ∧ (ending Tryz.prog cf0 100000 10 ⟨bld (lD 1 S13), nD 1 S13, [], .off⟩ (rn10 (dropSeq 8 c10) (envD X10 z13) (WD X10 z13)) = .ok (.string ⟨⟨[111, 107]⟩⟩) ⟨bld (lD X10 z13), nD X10 z13, [], .off⟩) ∧ (nD 1 S14 = 300) ∧ (okN 300 X10 z14 (in10 o0 8 [.pointer (some ⟨88, 0, none⟩), .string ⟨⟨[100, 111, 32, 50, 32, 50, 32, 53, 32, 34, 34, 32, 116, 32, 50]⟩⟩] (WD 1 S14)) = true) ∧ (ending Tryz.prog cf0 100000 10 ⟨bld (lD 1 S14), nD 1 S14, [], .off⟩ (rn10 (dropSeq 8 c10) (envD X10 z14) (WD X10 z14)) = .ok (.string ⟨⟨[111, 107]⟩⟩) ⟨bld (lD X10 z14), nD X10 z14, [], .off⟩) := ⟨by kernel_rfl, by kernel_rfl, by kernel_rfl, by kernel_rfl, by kernel_rfl, by kernel_rfl⟩
theorem S13_b : nD 1 S13 = 372 := Y4l0.1
theorem z13_h : okN 372 X10 z13 (in10 y7_o 8 [.pointer (some ⟨88, 0, none⟩), .string ⟨⟨[115, 121, 110, 99, 32, 51]⟩⟩] (WD 1 S13)) = true := Y4l0.2.1
theorem z13_e : ending Tryz.prog cf0 100000 10 ⟨bld (lD 1 S13), nD 1 S13, [], .off⟩ (rn10 (dropSeq 8 c10) (envD X10 z13) (WD X10 z13)) = .ok (.string ⟨⟨[111, 107]⟩⟩) ⟨bld (lD X10 z13), nD X10 z13, [], .off⟩ := Y4l0.2.2.1
theorem S14_b : nD 1 S14 = 300 := Y4l0.2.2.2.1
theorem z14_h : okN 300 X10 z14 (in10 o0 8 [.pointer (some ⟨88, 0, none⟩), .string ⟨⟨[100, 111, 32, 50, 32, 50, 32, 53, 32, 34, 34, 32, 116, 32, 50]⟩⟩] (WD 1 S14)) = true := Y4l0.2.2.2.2.1
theorem z14_e : ending Tryz.prog cf0 100000 10 ⟨bld (lD 1 S14), nD 1 S14, [], .off⟩ (rn10 (dropSeq 8 c10) (envD X10 z14) (WD X10 z14)) = .ok (.string ⟨⟨[111, 107]⟩⟩) ⟨bld (lD X10 z14), nD X10 z14, [], .off⟩ := Y4l0.2.2.2.2.2
theorem l13_S {T : List Value} {wB : World} : CallS Tryz.prog (symG T) wB 10 [.pointer (some ⟨88, 0, none⟩), .string ⟨⟨[115, 121, 110, 99, 32, 51]⟩⟩] (lD 1 S13) (nD 1 S13) (.string ⟨⟨[111, 107]⟩⟩) (lD X10 z13) (nD X10 z13) := call10 (q := 8) (z := z13) (by decide) S13_b y7_ok z13_h z13_e
noncomputable def l13_o : Orc := orcF 10 [.pointer (some ⟨88, 0, none⟩), .string ⟨⟨[115, 121, 110, 99, 32, 51]⟩⟩] (lD 1 S13) (nD 1 S13) (.string ⟨⟨[111, 107]⟩⟩) (lD X10 z13) (nD X10 z13)
theorem l13_ok {T : List Value} {wB : World} : OrcOkH Tryz.prog (symG T) wB l13_o := orcF_ok l13_S
theorem l14_S {T : List Value} {wB : World} : CallS Tryz.prog (symG T) wB 10 [.pointer (some ⟨88, 0, none⟩), .string ⟨⟨[100, 111, 32, 50, 32, 50, 32, 53, 32, 34, 34, 32, 116, 32, 50]⟩⟩] (lD 1 S14) (nD 1 S14) (.string ⟨⟨[111, 107]⟩⟩) (lD X10 z14) (nD X10 z14) := call10 (q := 8) (z := z14) (by decide) S14_b o0_ok z14_h z14_e
noncomputable def l14_o : Orc := orcF 10 [.pointer (some ⟨88, 0, none⟩), .string ⟨⟨[100, 111, 32, 50, 32, 50, 32, 53, 32, 34, 34, 32, 116, 32, 50]⟩⟩] (lD 1 S14) (nD 1 S14) (.string ⟨⟨[111, 107]⟩⟩) (lD X10 z14) (nD X10 z14)
theorem l14_ok {T : List Value} {wB : World} : OrcOkH Tryz.prog (symG T) wB l14_o := orcF_ok l14_S

end Go.Proofs.YtoignhfhljlnbaaGreatDoor
