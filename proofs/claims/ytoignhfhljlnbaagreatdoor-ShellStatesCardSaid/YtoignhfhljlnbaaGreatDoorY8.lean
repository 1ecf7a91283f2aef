/- The law ShellStates: lines (8). -/
import Derived.Test.YtoignhfhljlnbaaGreatDoorXn0
namespace Go.Proofs.YtoignhfhljlnbaaGreatDoor
open Go Go.Cx Go.RowKit

set_option maxRecDepth 1000000 in
theorem Y8s0 : (nD 1 T11 = 396) ∧ (okN 396 X113 y11_0 (start113 1 T11 35 3 2) = true) := ⟨by kernel_rfl, by kernel_rfl⟩
theorem y11_b : nD 1 T11 = 396 := Y8s0.1
theorem y11_0_h : okN 396 X113 y11_0 (start113 1 T11 35 3 2) = true := Y8s0.2
set_option maxRecDepth 1000000 in
theorem Y8s1 : (okN 396 X113 y11_1 (go113 y11_0 1) = true) ∧ (rn113 xS (envD X113 y11_1) (WD X113 y11_1) = .ex 0 (exE (rn113 xS (envD X113 y11_1) (WD X113 y11_1))) (WD X113 y11_1)) ∧ (ending Tryz.prog cf0 100000 113 ⟨bld (lD 1 T11), nD 1 T11, [], .off⟩ (.go (exE (rn113 xS (envD X113 y11_1) (WD X113 y11_1))) (WD X113 y11_1)) = .ok (.tuple #[]) ⟨bld (lD X113 y11_1), nD X113 y11_1, [], .off⟩) := ⟨by kernel_rfl, by kernel_rfl, by kernel_rfl⟩
theorem y11_1_h : okN 396 X113 y11_1 (go113 y11_0 1) = true := Y8s1.1
theorem y11_l : rn113 xS (envD X113 y11_1) (WD X113 y11_1) = .ex 0 (exE (rn113 xS (envD X113 y11_1) (WD X113 y11_1))) (WD X113 y11_1) := Y8s1.2.1
theorem y11_e : ending Tryz.prog cf0 100000 113 ⟨bld (lD 1 T11), nD 1 T11, [], .off⟩ (.go (exE (rn113 xS (envD X113 y11_1) (WD X113 y11_1))) (WD X113 y11_1)) = .ok (.tuple #[]) ⟨bld (lD X113 y11_1), nD X113 y11_1, [], .off⟩ := Y8s1.2.2
theorem y11_S {gB : Gh} {wB : World} : CallS Tryz.prog gB wB 113 [.pointer (some ⟨35, 0, none⟩), numV 3] (lD 1 T11) (nD 1 T11) (.tuple #[]) (lD X113 y11_1) (nD X113 y11_1) := by
  refine sync_start (x := T11) (y := y11_0) y11_b y11_0_h ?_
  refine sync_go (x := y11_0) (y := y11_1) ?_ y11_1_h ?_
  · exact Wn y11_b
  exact sync_last (x := y11_1) y11_l y11_e
noncomputable def y11_o : FuncId → List Value → W → Option Re := orcF 113 [.pointer (some ⟨35, 0, none⟩), numV 3] (lD 1 T11) (nD 1 T11) (.tuple #[]) (lD X113 y11_1) (nD X113 y11_1)
theorem y11_ok {T : List Value} {wB : World} : OrcOkH Tryz.prog (symG T) wB y11_o := orcF_ok y11_S
set_option maxRecDepth 1000000 in
theorem Y8l0 : (nD 1 S21 = 386) ∧ (okN 386 X10 z21 (in10 y11_o 8 [.pointer (some ⟨88, 0, none⟩), .string ⟨⟨[115, 121, 110, 99, 32, 51]⟩⟩] (WD 1 S21)) = true) ∧ (ending Tryz.prog cf0 100000 10 ⟨bld (lD 1 S21), nD 1 S21, [], .off⟩ (rn10 (dropSeq 8 c10) (envD X10 z21) (WD X10 z21)) = .ok (.string ⟨⟨[111, 107]⟩⟩) ⟨bld (lD X10 z21), nD X10 z21, [], .off⟩) ∧ (nD 1 S22 = 311) ∧ (okN 311 X10 z22 (in10 o0 8 [.pointer (some ⟨88, 0, none⟩), .string ⟨⟨[100, 111, 32, 50, 32, 50, 32, 53, 32, 34, 34, 32, 116, 32, 52]⟩⟩] (WD 1 S22)) = true) ∧ (ending Tryz.prog cf0 100000 10 ⟨bld (lD 1 S22), nD 1 S22, [], .off⟩ (rn10 (dropSeq 8 c10) (envD X10 z22) (WD X10 z22)) = .ok (.string ⟨⟨[114, 105, 103, 104, 116, 115]⟩⟩) ⟨bld (lD X10 z22), nD X10 z22, [], .off⟩) := ⟨by kernel_rfl, by kernel_rfl, by kernel_rfl, by kernel_rfl, by kernel_rfl, by kernel_rfl⟩
theorem S21_b : nD 1 S21 = 386 := Y8l0.1
theorem z21_h : okN 386 X10 z21 (in10 y11_o 8 [.pointer (some ⟨88, 0, none⟩), .string ⟨⟨[115, 121, 110, 99, 32, 51]⟩⟩] (WD 1 S21)) = true := Y8l0.2.1
theorem z21_e : ending Tryz.prog cf0 100000 10 ⟨bld (lD 1 S21), nD 1 S21, [], .off⟩ (rn10 (dropSeq 8 c10) (envD X10 z21) (WD X10 z21)) = .ok (.string ⟨⟨[111, 107]⟩⟩) ⟨bld (lD X10 z21), nD X10 z21, [], .off⟩ := Y8l0.2.2.1
theorem S22_b : nD 1 S22 = 311 := Y8l0.2.2.2.1
theorem z22_h : okN 311 X10 z22 (in10 o0 8 [.pointer (some ⟨88, 0, none⟩), .string ⟨⟨[100, 111, 32, 50, 32, 50, 32, 53, 32, 34, 34, 32, 116, 32, 52]⟩⟩] (WD 1 S22)) = true := Y8l0.2.2.2.2.1
theorem z22_e : ending Tryz.prog cf0 100000 10 ⟨bld (lD 1 S22), nD 1 S22, [], .off⟩ (rn10 (dropSeq 8 c10) (envD X10 z22) (WD X10 z22)) = .ok (.string ⟨⟨[114, 105, 103, 104, 116, 115]⟩⟩) ⟨bld (lD X10 z22), nD X10 z22, [], .off⟩ := Y8l0.2.2.2.2.2
theorem l21_S {T : List Value} {wB : World} : CallS Tryz.prog (symG T) wB 10 [.pointer (some ⟨88, 0, none⟩), .string ⟨⟨[115, 121, 110, 99, 32, 51]⟩⟩] (lD 1 S21) (nD 1 S21) (.string ⟨⟨[111, 107]⟩⟩) (lD X10 z21) (nD X10 z21) := call10 (q := 8) (z := z21) (by decide) S21_b y11_ok z21_h z21_e
noncomputable def l21_o : Orc := orcF 10 [.pointer (some ⟨88, 0, none⟩), .string ⟨⟨[115, 121, 110, 99, 32, 51]⟩⟩] (lD 1 S21) (nD 1 S21) (.string ⟨⟨[111, 107]⟩⟩) (lD X10 z21) (nD X10 z21)
theorem l21_ok {T : List Value} {wB : World} : OrcOkH Tryz.prog (symG T) wB l21_o := orcF_ok l21_S
theorem l22_S {T : List Value} {wB : World} : CallS Tryz.prog (symG T) wB 10 [.pointer (some ⟨88, 0, none⟩), .string ⟨⟨[100, 111, 32, 50, 32, 50, 32, 53, 32, 34, 34, 32, 116, 32, 52]⟩⟩] (lD 1 S22) (nD 1 S22) (.string ⟨⟨[114, 105, 103, 104, 116, 115]⟩⟩) (lD X10 z22) (nD X10 z22) := call10 (q := 8) (z := z22) (by decide) S22_b o0_ok z22_h z22_e
noncomputable def l22_o : Orc := orcF 10 [.pointer (some ⟨88, 0, none⟩), .string ⟨⟨[100, 111, 32, 50, 32, 50, 32, 53, 32, 34, 34, 32, 116, 32, 52]⟩⟩] (lD 1 S22) (nD 1 S22) (.string ⟨⟨[114, 105, 103, 104, 116, 115]⟩⟩) (lD X10 z22) (nD X10 z22)
theorem l22_ok {T : List Value} {wB : World} : OrcOkH Tryz.prog (symG T) wB l22_o := orcF_ok l22_S

end Go.Proofs.YtoignhfhljlnbaaGreatDoor
