/- The law ShellStates: lines (10). -/
import Derived.Test.YtoignhfhljlnbaaGreatDoorXn0
namespace Go.Proofs.YtoignhfhljlnbaaGreatDoor
open Go Go.Cx Go.RowKit

set_option maxRecDepth 1000000 in
theorem Y10s0 : (nD 1 T13 = 397) ∧ (okN 397 X113 y13_0 (start113 1 T13 35 3 2) = true) := ⟨by kernel_rfl, by kernel_rfl⟩
theorem y13_b : nD 1 T13 = 397 := Y10s0.1
theorem y13_0_h : okN 397 X113 y13_0 (start113 1 T13 35 3 2) = true := Y10s0.2
set_option maxRecDepth 1000000 in
theorem Y10s1 : (okN 397 X113 y13_1 (go113 y13_0 1) = true) ∧ (rn113 xS (envD X113 y13_1) (WD X113 y13_1) = .ex 0 (exE (rn113 xS (envD X113 y13_1) (WD X113 y13_1))) (WD X113 y13_1)) ∧ (ending Tryz.prog cf0 100000 113 ⟨bld (lD 1 T13), nD 1 T13, [], .off⟩ (.go (exE (rn113 xS (envD X113 y13_1) (WD X113 y13_1))) (WD X113 y13_1)) = .ok (.tuple #[]) ⟨bld (lD X113 y13_1), nD X113 y13_1, [], .off⟩) := ⟨by kernel_rfl, by kernel_rfl, by kernel_rfl⟩
theorem y13_1_h : okN 397 X113 y13_1 (go113 y13_0 1) = true := Y10s1.1
theorem y13_l : rn113 xS (envD X113 y13_1) (WD X113 y13_1) = .ex 0 (exE (rn113 xS (envD X113 y13_1) (WD X113 y13_1))) (WD X113 y13_1) := Y10s1.2.1
theorem y13_e : ending Tryz.prog cf0 100000 113 ⟨bld (lD 1 T13), nD 1 T13, [], .off⟩ (.go (exE (rn113 xS (envD X113 y13_1) (WD X113 y13_1))) (WD X113 y13_1)) = .ok (.tuple #[]) ⟨bld (lD X113 y13_1), nD X113 y13_1, [], .off⟩ := Y10s1.2.2
theorem y13_S {gB : Gh} {wB : World} : CallS Tryz.prog gB wB 113 [.pointer (some ⟨35, 0, none⟩), numV 3] (lD 1 T13) (nD 1 T13) (.tuple #[]) (lD X113 y13_1) (nD X113 y13_1) := by
  refine sync_start (x := T13) (y := y13_0) y13_b y13_0_h ?_
  refine sync_go (x := y13_0) (y := y13_1) ?_ y13_1_h ?_
  · exact Wn y13_b
  exact sync_last (x := y13_1) y13_l y13_e
noncomputable def y13_o : FuncId → List Value → W → Option Re := orcF 113 [.pointer (some ⟨35, 0, none⟩), numV 3] (lD 1 T13) (nD 1 T13) (.tuple #[]) (lD X113 y13_1) (nD X113 y13_1)
theorem y13_ok {T : List Value} {wB : World} : OrcOkH Tryz.prog (symG T) wB y13_o := orcF_ok y13_S
set_option maxRecDepth 1000000 in
theorem Y10l0 : (nD 1 S25 = 387) ∧ (okN 387 X10 z25 (in10 y13_o 8 [.pointer (some ⟨88, 0, none⟩), .string ⟨⟨[115, 121, 110, 99, 32, 51]⟩⟩] (WD 1 S25)) = true) ∧ (ending Tryz.prog cf0 100000 10 ⟨bld (lD 1 S25), nD 1 S25, [], .off⟩ (rn10 (dropSeq 8 c10) (envD X10 z25) (WD X10 z25)) = .ok (.string ⟨⟨[111, 107]⟩⟩) ⟨bld (lD X10 z25), nD X10 z25, [], .off⟩) := ⟨by kernel_rfl, by kernel_rfl, by kernel_rfl⟩
theorem S25_b : nD 1 S25 = 387 := Y10l0.1
theorem z25_h : okN 387 X10 z25 (in10 y13_o 8 [.pointer (some ⟨88, 0, none⟩), .string ⟨⟨[115, 121, 110, 99, 32, 51]⟩⟩] (WD 1 S25)) = true := Y10l0.2.1
theorem z25_e : ending Tryz.prog cf0 100000 10 ⟨bld (lD 1 S25), nD 1 S25, [], .off⟩ (rn10 (dropSeq 8 c10) (envD X10 z25) (WD X10 z25)) = .ok (.string ⟨⟨[111, 107]⟩⟩) ⟨bld (lD X10 z25), nD X10 z25, [], .off⟩ := Y10l0.2.2
theorem l25_S {T : List Value} {wB : World} : CallS Tryz.prog (symG T) wB 10 [.pointer (some ⟨88, 0, none⟩), .string ⟨⟨[115, 121, 110, 99, 32, 51]⟩⟩] (lD 1 S25) (nD 1 S25) (.string ⟨⟨[111, 107]⟩⟩) (lD X10 z25) (nD X10 z25) := call10 (q := 8) (z := z25) (by decide) S25_b y13_ok z25_h z25_e
noncomputable def l25_o : Orc := orcF 10 [.pointer (some ⟨88, 0, none⟩), .string ⟨⟨[115, 121, 110, 99, 32, 51]⟩⟩] (lD 1 S25) (nD 1 S25) (.string ⟨⟨[111, 107]⟩⟩) (lD X10 z25) (nD X10 z25)
theorem l25_ok {T : List Value} {wB : World} : OrcOkH Tryz.prog (symG T) wB l25_o := orcF_ok l25_S

end Go.Proofs.YtoignhfhljlnbaaGreatDoor
