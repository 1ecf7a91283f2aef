/- The law ShellStates: lines (9). -/
import Derived.Test.YtoignhfhljlnbaaGreatDoorXn0
namespace Go.Proofs.YtoignhfhljlnbaaGreatDoor
open Go Go.Cx Go.RowKit

set_option maxRecDepth 1000000 in
theorem Y9s0 : (nD 1 T12 = 372) ∧ (okN 372 X113 y12_0 (start113 1 T12 35 4 1) = true) := ⟨by kernel_rfl, by kernel_rfl⟩
theorem y12_b : nD 1 T12 = 372 := Y9s0.1
theorem y12_0_h : okN 372 X113 y12_0 (start113 1 T12 35 4 1) = true := Y9s0.2
set_option maxRecDepth 1000000 in
theorem y12_1_h : okN 372 X113 y12_1 (go113 y12_0 2) = true := by kernel_rfl
set_option maxRecDepth 1000000 in
theorem Y9s2 : (okN 372 X113 y12_2 (go113 y12_1 1) = true) ∧ (rn113 xS (envD X113 y12_2) (WD X113 y12_2) = .ex 0 (exE (rn113 xS (envD X113 y12_2) (WD X113 y12_2))) (WD X113 y12_2)) ∧ (ending Tryz.prog cf0 100000 113 ⟨bld (lD 1 T12), nD 1 T12, [], .off⟩ (.go (exE (rn113 xS (envD X113 y12_2) (WD X113 y12_2))) (WD X113 y12_2)) = .ok (.tuple #[]) ⟨bld (lD X113 y12_2), nD X113 y12_2, [], .off⟩) := ⟨by kernel_rfl, by kernel_rfl, by kernel_rfl⟩
theorem y12_2_h : okN 372 X113 y12_2 (go113 y12_1 1) = true := Y9s2.1
theorem y12_l : rn113 xS (envD X113 y12_2) (WD X113 y12_2) = .ex 0 (exE (rn113 xS (envD X113 y12_2) (WD X113 y12_2))) (WD X113 y12_2) := Y9s2.2.1
theorem y12_e : ending Tryz.prog cf0 100000 113 ⟨bld (lD 1 T12), nD 1 T12, [], .off⟩ (.go (exE (rn113 xS (envD X113 y12_2) (WD X113 y12_2))) (WD X113 y12_2)) = .ok (.tuple #[]) ⟨bld (lD X113 y12_2), nD X113 y12_2, [], .off⟩ := Y9s2.2.2
theorem y12_S {gB : Gh} {wB : World} : CallS Tryz.prog gB wB 113 [.pointer (some ⟨35, 0, none⟩), numV 4] (lD 1 T12) (nD 1 T12) (.tuple #[]) (lD X113 y12_2) (nD X113 y12_2) := by
  refine sync_start (x := T12) (y := y12_0) y12_b y12_0_h ?_
  refine sync_go (x := y12_0) (y := y12_1) ?_ y12_1_h ?_
  · exact Wn y12_b
  refine sync_go (x := y12_1) (y := y12_2) ?_ y12_2_h ?_
  · exact Wn y12_b
  exact sync_last (x := y12_2) y12_l y12_e
noncomputable def y12_o : FuncId → List Value → W → Option Re := orcF 113 [.pointer (some ⟨35, 0, none⟩), numV 4] (lD 1 T12) (nD 1 T12) (.tuple #[]) (lD X113 y12_2) (nD X113 y12_2)
theorem y12_ok {T : List Value} {wB : World} : OrcOkH Tryz.prog (symG T) wB y12_o := orcF_ok y12_S
set_option maxRecDepth 1000000 in
theorem Y9l0 : (nD 1 S23 = 362) ∧ (okN 362 X10 z23 (in10 y12_o 8 [.pointer (some ⟨88, 0, none⟩), .string ⟨⟨[115, 121, 110, 99, 32, 52]⟩⟩] (WD 1 S23)) = true) ∧ (ending Tryz.prog cf0 100000 10 ⟨bld (lD 1 S23), nD 1 S23, [], .off⟩ (rn10 (dropSeq 8 c10) (envD X10 z23) (WD X10 z23)) = .ok (.string ⟨⟨[111, 107]⟩⟩) ⟨bld (lD X10 z23), nD X10 z23, [], .off⟩) ∧ (nD 1 S24 = 362) ∧ (okN 362 X10 z24 (in10 o0 8 [.pointer (some ⟨88, 0, none⟩), .string ⟨⟨[108, 111, 115, 101, 32, 50]⟩⟩] (WD 1 S24)) = true) ∧ (ending Tryz.prog cf0 100000 10 ⟨bld (lD 1 S24), nD 1 S24, [], .off⟩ (rn10 (dropSeq 8 c10) (envD X10 z24) (WD X10 z24)) = .ok (.string ⟨⟨[111, 107]⟩⟩) ⟨bld (lD X10 z24), nD X10 z24, [], .off⟩) := ⟨by kernel_rfl, by kernel_rfl, by kernel_rfl, by kernel_rfl, by kernel_rfl, by kernel_rfl⟩
theorem S23_b : nD 1 S23 = 362 := Y9l0.1
theorem z23_h : okN 362 X10 z23 (in10 y12_o 8 [.pointer (some ⟨88, 0, none⟩), .string ⟨⟨[115, 121, 110, 99, 32, 52]⟩⟩] (WD 1 S23)) = true := Y9l0.2.1
theorem z23_e : ending Tryz.prog cf0 100000 10 ⟨bld (lD 1 S23), nD 1 S23, [], .off⟩ (rn10 (dropSeq 8 c10) (envD X10 z23) (WD X10 z23)) = .ok (.string ⟨⟨[111, 107]⟩⟩) ⟨bld (lD X10 z23), nD X10 z23, [], .off⟩ := Y9l0.2.2.1
theorem S24_b : nD 1 S24 = 362 := Y9l0.2.2.2.1
theorem z24_h : okN 362 X10 z24 (in10 o0 8 [.pointer (some ⟨88, 0, none⟩), .string ⟨⟨[108, 111, 115, 101, 32, 50]⟩⟩] (WD 1 S24)) = true := Y9l0.2.2.2.2.1
theorem z24_e : ending Tryz.prog cf0 100000 10 ⟨bld (lD 1 S24), nD 1 S24, [], .off⟩ (rn10 (dropSeq 8 c10) (envD X10 z24) (WD X10 z24)) = .ok (.string ⟨⟨[111, 107]⟩⟩) ⟨bld (lD X10 z24), nD X10 z24, [], .off⟩ := Y9l0.2.2.2.2.2
theorem l23_S {T : List Value} {wB : World} : CallS Tryz.prog (symG T) wB 10 [.pointer (some ⟨88, 0, none⟩), .string ⟨⟨[115, 121, 110, 99, 32, 52]⟩⟩] (lD 1 S23) (nD 1 S23) (.string ⟨⟨[111, 107]⟩⟩) (lD X10 z23) (nD X10 z23) := call10 (q := 8) (z := z23) (by decide) S23_b y12_ok z23_h z23_e
noncomputable def l23_o : Orc := orcF 10 [.pointer (some ⟨88, 0, none⟩), .string ⟨⟨[115, 121, 110, 99, 32, 52]⟩⟩] (lD 1 S23) (nD 1 S23) (.string ⟨⟨[111, 107]⟩⟩) (lD X10 z23) (nD X10 z23)
theorem l23_ok {T : List Value} {wB : World} : OrcOkH Tryz.prog (symG T) wB l23_o := orcF_ok l23_S
theorem l24_S {T : List Value} {wB : World} : CallS Tryz.prog (symG T) wB 10 [.pointer (some ⟨88, 0, none⟩), .string ⟨⟨[108, 111, 115, 101, 32, 50]⟩⟩] (lD 1 S24) (nD 1 S24) (.string ⟨⟨[111, 107]⟩⟩) (lD X10 z24) (nD X10 z24) := call10 (q := 8) (z := z24) (by decide) S24_b o0_ok z24_h z24_e
noncomputable def l24_o : Orc := orcF 10 [.pointer (some ⟨88, 0, none⟩), .string ⟨⟨[108, 111, 115, 101, 32, 50]⟩⟩] (lD 1 S24) (nD 1 S24) (.string ⟨⟨[111, 107]⟩⟩) (lD X10 z24) (nD X10 z24)
theorem l24_ok {T : List Value} {wB : World} : OrcOkH Tryz.prog (symG T) wB l24_o := orcF_ok l24_S

end Go.Proofs.YtoignhfhljlnbaaGreatDoor
