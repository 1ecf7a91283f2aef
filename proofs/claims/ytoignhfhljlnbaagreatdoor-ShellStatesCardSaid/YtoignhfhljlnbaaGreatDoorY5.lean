/- The law ShellStates: lines (5). -/
import Derived.Test.YtoignhfhljlnbaaGreatDoorXn0
namespace Go.Proofs.YtoignhfhljlnbaaGreatDoor
open Go Go.Cx Go.RowKit

set_option maxRecDepth 1000000 in
theorem Y5s0 : (nD 1 T8 = 370) ∧ (okN 370 X113 y8_0 (start113 1 T8 35 4 1) = true) := ⟨by kernel_rfl, by kernel_rfl⟩
theorem y8_b : nD 1 T8 = 370 := Y5s0.1
theorem y8_0_h : okN 370 X113 y8_0 (start113 1 T8 35 4 1) = true := Y5s0.2
set_option maxRecDepth 1000000 in
theorem y8_1_h : okN 370 X113 y8_1 (go113 y8_0 2) = true := by kernel_rfl
set_option maxRecDepth 1000000 in
theorem Y5s2 : (okN 370 X113 y8_2 (go113 y8_1 1) = true) ∧ (rn113 xS (envD X113 y8_2) (WD X113 y8_2) = .ex 0 (exE (rn113 xS (envD X113 y8_2) (WD X113 y8_2))) (WD X113 y8_2)) ∧ (ending Tryz.prog cf0 100000 113 ⟨bld (lD 1 T8), nD 1 T8, [], .off⟩ (.go (exE (rn113 xS (envD X113 y8_2) (WD X113 y8_2))) (WD X113 y8_2)) = .ok (.tuple #[]) ⟨bld (lD X113 y8_2), nD X113 y8_2, [], .off⟩) := ⟨by kernel_rfl, by kernel_rfl, by kernel_rfl⟩
theorem y8_2_h : okN 370 X113 y8_2 (go113 y8_1 1) = true := Y5s2.1
theorem y8_l : rn113 xS (envD X113 y8_2) (WD X113 y8_2) = .ex 0 (exE (rn113 xS (envD X113 y8_2) (WD X113 y8_2))) (WD X113 y8_2) := Y5s2.2.1
theorem y8_e : ending Tryz.prog cf0 100000 113 ⟨bld (lD 1 T8), nD 1 T8, [], .off⟩ (.go (exE (rn113 xS (envD X113 y8_2) (WD X113 y8_2))) (WD X113 y8_2)) = .ok (.tuple #[]) ⟨bld (lD X113 y8_2), nD X113 y8_2, [], .off⟩ := Y5s2.2.2
theorem y8_S {gB : Gh} {wB : World} : CallS Tryz.prog gB wB 113 [.pointer (some ⟨35, 0, none⟩), numV 4] (lD 1 T8) (nD 1 T8) (.tuple #[]) (lD X113 y8_2) (nD X113 y8_2) := by
  refine sync_start (x := T8) (y := y8_0) y8_b y8_0_h ?_
  refine sync_go (x := y8_0) (y := y8_1) ?_ y8_1_h ?_
  · exact Wn y8_b
  refine sync_go (x := y8_1) (y := y8_2) ?_ y8_2_h ?_
  · exact Wn y8_b
  exact sync_last (x := y8_2) y8_l y8_e
noncomputable def y8_o : FuncId → List Value → W → Option Re := orcF 113 [.pointer (some ⟨35, 0, none⟩), numV 4] (lD 1 T8) (nD 1 T8) (.tuple #[]) (lD X113 y8_2) (nD X113 y8_2)
theorem y8_ok {T : List Value} {wB : World} : OrcOkH Tryz.prog (symG T) wB y8_o := orcF_ok y8_S
set_option maxRecDepth 1000000 in
theorem Y5l0 : (nD 1 S15 = 360) ∧ (okN 360 X10 z15 (in10 y8_o 8 [.pointer (some ⟨88, 0, none⟩), .string ⟨⟨[115, 121, 110, 99, 32, 52]⟩⟩] (WD 1 S15)) = true) ∧ (ending Tryz.prog cf0 100000 10 ⟨bld (lD 1 S15), nD 1 S15, [], .off⟩ (rn10 (dropSeq 8 c10) (envD X10 z15) (WD X10 z15)) = .ok (.string ⟨⟨[111, 107]⟩⟩) ⟨bld (lD X10 z15), nD X10 z15, [], .off⟩) ∧ (nD 1 S16 = 360) ∧ (okN 360 X10 z16 (in10 o0 8 [.pointer (some ⟨88, 0, none⟩), .string ⟨⟨[108, 111, 115, 101, 32, 50]⟩⟩] (WD 1 S16)) = true) ∧ (ending Tryz.prog cf0 100000 10 ⟨bld (lD 1 S16), nD 1 S16, [], .off⟩ (rn10 (dropSeq 8 c10) (envD X10 z16) (WD X10 z16)) = .ok (.string ⟨⟨[111, 107]⟩⟩) ⟨bld (lD X10 z16), nD X10 z16, [], .off⟩) := ⟨by kernel_rfl, by kernel_rfl, by kernel_rfl, by kernel_rfl, by kernel_rfl, by kernel_rfl⟩
theorem S15_b : nD 1 S15 = 360 := Y5l0.1
theorem z15_h : okN 360 X10 z15 (in10 y8_o 8 [.pointer (some ⟨88, 0, none⟩), .string ⟨⟨[115, 121, 110, 99, 32, 52]⟩⟩] (WD 1 S15)) = true := Y5l0.2.1
theorem z15_e : ending Tryz.prog cf0 100000 10 ⟨bld (lD 1 S15), nD 1 S15, [], .off⟩ (rn10 (dropSeq 8 c10) (envD X10 z15) (WD X10 z15)) = .ok (.string ⟨⟨[111, 107]⟩⟩) ⟨bld (lD X10 z15), nD X10 z15, [], .off⟩ := Y5l0.2.2.1
theorem S16_b : nD 1 S16 = 360 := Y5l0.2.2.2.1
theorem z16_h : okN 360 X10 z16 (in10 o0 8 [.pointer (some ⟨88, 0, none⟩), .string ⟨⟨[108, 111, 115, 101, 32, 50]⟩⟩] (WD 1 S16)) = true := Y5l0.2.2.2.2.1
theorem z16_e : ending Tryz.prog cf0 100000 10 ⟨bld (lD 1 S16), nD 1 S16, [], .off⟩ (rn10 (dropSeq 8 c10) (envD X10 z16) (WD X10 z16)) = .ok (.string ⟨⟨[111, 107]⟩⟩) ⟨bld (lD X10 z16), nD X10 z16, [], .off⟩ := Y5l0.2.2.2.2.2
theorem l15_S {T : List Value} {wB : World} : CallS Tryz.prog (symG T) wB 10 [.pointer (some ⟨88, 0, none⟩), .string ⟨⟨[115, 121, 110, 99, 32, 52]⟩⟩] (lD 1 S15) (nD 1 S15) (.string ⟨⟨[111, 107]⟩⟩) (lD X10 z15) (nD X10 z15) := call10 (q := 8) (z := z15) (by decide) S15_b y8_ok z15_h z15_e
noncomputable def l15_o : Orc := orcF 10 [.pointer (some ⟨88, 0, none⟩), .string ⟨⟨[115, 121, 110, 99, 32, 52]⟩⟩] (lD 1 S15) (nD 1 S15) (.string ⟨⟨[111, 107]⟩⟩) (lD X10 z15) (nD X10 z15)
theorem l15_ok {T : List Value} {wB : World} : OrcOkH Tryz.prog (symG T) wB l15_o := orcF_ok l15_S
theorem l16_S {T : List Value} {wB : World} : CallS Tryz.prog (symG T) wB 10 [.pointer (some ⟨88, 0, none⟩), .string ⟨⟨[108, 111, 115, 101, 32, 50]⟩⟩] (lD 1 S16) (nD 1 S16) (.string ⟨⟨[111, 107]⟩⟩) (lD X10 z16) (nD X10 z16) := call10 (q := 8) (z := z16) (by decide) S16_b o0_ok z16_h z16_e
noncomputable def l16_o : Orc := orcF 10 [.pointer (some ⟨88, 0, none⟩), .string ⟨⟨[108, 111, 115, 101, 32, 50]⟩⟩] (lD 1 S16) (nD 1 S16) (.string ⟨⟨[111, 107]⟩⟩) (lD X10 z16) (nD X10 z16)
theorem l16_ok {T : List Value} {wB : World} : OrcOkH Tryz.prog (symG T) wB l16_o := orcF_ok l16_S

end Go.Proofs.YtoignhfhljlnbaaGreatDoor
