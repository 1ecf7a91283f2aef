/- The law ShellStates: lines (0). -/
import Derived.Test.YtoignhfhljlnbaaGreatDoorXn0
namespace Go.Proofs.YtoignhfhljlnbaaGreatDoor
open Go Go.Cx Go.RowKit

set_option maxRecDepth 1000000 in
theorem Y0s0 : (nD 1 T0 = 232) ∧ (okN 232 X113 y0_0 (start113 1 T0 35 14 6) = true) := ⟨by kernel_rfl, by kernel_rfl⟩
theorem y0_b : nD 1 T0 = 232 := Y0s0.1
theorem y0_0_h : okN 232 X113 y0_0 (start113 1 T0 35 14 6) = true := Y0s0.2
set_option maxRecDepth 1000000 in
theorem y0_1_h : okN 232 X113 y0_1 (go113 y0_0 3) = true := by kernel_rfl
set_option maxRecDepth 1000000 in
theorem y0_2_h : okN 232 X113 y0_2 (go113 y0_1 3) = true := by kernel_rfl
set_option maxRecDepth 1000000 in
theorem Y0s3 : (okN 232 X113 y0_3 (go113 y0_2 2) = true) ∧ (rn113 xS (envD X113 y0_3) (WD X113 y0_3) = .ex 0 (exE (rn113 xS (envD X113 y0_3) (WD X113 y0_3))) (WD X113 y0_3)) ∧ (ending Tryz.prog cf0 100000 113 ⟨bld (lD 1 T0), nD 1 T0, [], .off⟩ (.go (exE (rn113 xS (envD X113 y0_3) (WD X113 y0_3))) (WD X113 y0_3)) = .ok (.tuple #[]) ⟨bld (lD X113 y0_3), nD X113 y0_3, [], .off⟩) := ⟨by kernel_rfl, by kernel_rfl, by kernel_rfl⟩
theorem y0_3_h : okN 232 X113 y0_3 (go113 y0_2 2) = true := Y0s3.1
theorem y0_l : rn113 xS (envD X113 y0_3) (WD X113 y0_3) = .ex 0 (exE (rn113 xS (envD X113 y0_3) (WD X113 y0_3))) (WD X113 y0_3) := Y0s3.2.1
theorem y0_e : ending Tryz.prog cf0 100000 113 ⟨bld (lD 1 T0), nD 1 T0, [], .off⟩ (.go (exE (rn113 xS (envD X113 y0_3) (WD X113 y0_3))) (WD X113 y0_3)) = .ok (.tuple #[]) ⟨bld (lD X113 y0_3), nD X113 y0_3, [], .off⟩ := Y0s3.2.2
theorem y0_S {gB : Gh} {wB : World} : CallS Tryz.prog gB wB 113 [.pointer (some ⟨35, 0, none⟩), numV 14] (lD 1 T0) (nD 1 T0) (.tuple #[]) (lD X113 y0_3) (nD X113 y0_3) := by
  refine sync_start (x := T0) (y := y0_0) y0_b y0_0_h ?_
  refine sync_go (x := y0_0) (y := y0_1) ?_ y0_1_h ?_
  · exact Wn y0_b
  refine sync_go (x := y0_1) (y := y0_2) ?_ y0_2_h ?_
  · exact Wn y0_b
  refine sync_go (x := y0_2) (y := y0_3) ?_ y0_3_h ?_
  · exact Wn y0_b
  exact sync_last (x := y0_3) y0_l y0_e
noncomputable def y0_o : FuncId → List Value → W → Option Re := orcF 113 [.pointer (some ⟨35, 0, none⟩), numV 14] (lD 1 T0) (nD 1 T0) (.tuple #[]) (lD X113 y0_3) (nD X113 y0_3)
theorem y0_ok {T : List Value} {wB : World} : OrcOkH Tryz.prog (symG T) wB y0_o := orcF_ok y0_S
set_option maxRecDepth 1000000 in
theorem Y0l0 : (nD 1 S0 = 222) ∧ (okN 222 X10 z0 (in10 y0_o 8 [.pointer (some ⟨88, 0, none⟩), .string ⟨⟨[115, 121, 110, 99, 32, 49, 52]⟩⟩] (WD 1 S0)) = true) ∧ (ending Tryz.prog cf0 100000 10 ⟨bld (lD 1 S0), nD 1 S0, [], .off⟩ (rn10 (dropSeq 8 c10) (envD X10 z0) (WD X10 z0)) = .ok (.string ⟨⟨[111, 107]⟩⟩) ⟨bld (lD X10 z0), nD X10 z0, [], .off⟩) := ⟨by kernel_rfl, by kernel_rfl, by kernel_rfl⟩
theorem S0_b : nD 1 S0 = 222 := Y0l0.1
theorem z0_h : okN 222 X10 z0 (in10 y0_o 8 [.pointer (some ⟨88, 0, none⟩), .string ⟨⟨[115, 121, 110, 99, 32, 49, 52]⟩⟩] (WD 1 S0)) = true := Y0l0.2.1
theorem z0_e : ending Tryz.prog cf0 100000 10 ⟨bld (lD 1 S0), nD 1 S0, [], .off⟩ (rn10 (dropSeq 8 c10) (envD X10 z0) (WD X10 z0)) = .ok (.string ⟨⟨[111, 107]⟩⟩) ⟨bld (lD X10 z0), nD X10 z0, [], .off⟩ := Y0l0.2.2
theorem l0_S {T : List Value} {wB : World} : CallS Tryz.prog (symG T) wB 10 [.pointer (some ⟨88, 0, none⟩), .string ⟨⟨[115, 121, 110, 99, 32, 49, 52]⟩⟩] (lD 1 S0) (nD 1 S0) (.string ⟨⟨[111, 107]⟩⟩) (lD X10 z0) (nD X10 z0) := call10 (q := 8) (z := z0) (by decide) S0_b y0_ok z0_h z0_e
noncomputable def l0_o : Orc := orcF 10 [.pointer (some ⟨88, 0, none⟩), .string ⟨⟨[115, 121, 110, 99, 32, 49, 52]⟩⟩] (lD 1 S0) (nD 1 S0) (.string ⟨⟨[111, 107]⟩⟩) (lD X10 z0) (nD X10 z0)
theorem l0_ok {T : List Value} {wB : World} : OrcOkH Tryz.prog (symG T) wB l0_o := orcF_ok l0_S

end Go.Proofs.YtoignhfhljlnbaaGreatDoor
