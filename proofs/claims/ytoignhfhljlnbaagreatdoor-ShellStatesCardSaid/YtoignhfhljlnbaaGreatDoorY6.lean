/- The law ShellStates: lines (6). -/
import Derived.Test.YtoignhfhljlnbaaGreatDoorXn0
namespace Go.Proofs.YtoignhfhljlnbaaGreatDoor
open Go Go.Cx Go.RowKit

set_option maxRecDepth 1000000 in
theorem Y6s0 : (nD 1 T9 = 395) ∧ (okN 395 X113 y9_0 (start113 1 T9 35 3 2) = true) := ⟨by kernel_rfl, by kernel_rfl⟩
theorem y9_b : nD 1 T9 = 395 := Y6s0.1
theorem y9_0_h : okN 395 X113 y9_0 (start113 1 T9 35 3 2) = true := Y6s0.2
set_option maxRecDepth 1000000 in
theorem Y6s1 : (okN 395 X113 y9_1 (go113 y9_0 1) = true) ∧ (rn113 xS (envD X113 y9_1) (WD X113 y9_1) = .ex 0 (exE (rn113 xS (envD X113 y9_1) (WD X113 y9_1))) (WD X113 y9_1)) ∧ (ending Tryz.prog cf0 100000 113 ⟨bld (lD 1 T9), nD 1 T9, [], .off⟩ (.go (exE (rn113 xS (envD X113 y9_1) (WD X113 y9_1))) (WD X113 y9_1)) = .ok (.tuple #[]) ⟨bld (lD X113 y9_1), nD X113 y9_1, [], .off⟩) := ⟨by kernel_rfl, by kernel_rfl, by kernel_rfl⟩
theorem y9_1_h : okN 395 X113 y9_1 (go113 y9_0 1) = true := Y6s1.1
theorem y9_l : rn113 xS (envD X113 y9_1) (WD X113 y9_1) = .ex 0 (exE (rn113 xS (envD X113 y9_1) (WD X113 y9_1))) (WD X113 y9_1) := Y6s1.2.1
theorem y9_e : ending Tryz.prog cf0 100000 113 ⟨bld (lD 1 T9), nD 1 T9, [], .off⟩ (.go (exE (rn113 xS (envD X113 y9_1) (WD X113 y9_1))) (WD X113 y9_1)) = .ok (.tuple #[]) ⟨bld (lD X113 y9_1), nD X113 y9_1, [], .off⟩ := Y6s1.2.2
theorem y9_S {gB : Gh} {wB : World} : CallS Tryz.prog gB wB 113 [.pointer (some ⟨35, 0, none⟩), numV 3] (lD 1 T9) (nD 1 T9) (.tuple #[]) (lD X113 y9_1) (nD X113 y9_1) := by
  refine sync_start (x := T9) (y := y9_0) y9_b y9_0_h ?_
  refine sync_go (x := y9_0) (y := y9_1) ?_ y9_1_h ?_
  · exact Wn y9_b
  exact sync_last (x := y9_1) y9_l y9_e
noncomputable def y9_o : FuncId → List Value → W → Option Re := orcF 113 [.pointer (some ⟨35, 0, none⟩), numV 3] (lD 1 T9) (nD 1 T9) (.tuple #[]) (lD X113 y9_1) (nD X113 y9_1)
theorem y9_ok {T : List Value} {wB : World} : OrcOkH Tryz.prog (symG T) wB y9_o := orcF_ok y9_S
set_option maxRecDepth 1000000 in
theorem Y6l0 : (nD 1 S17 = 385) ∧ (okN 385 X10 z17 (in10 y9_o 8 [.pointer (some ⟨88, 0, none⟩), .string ⟨⟨[115, 121, 110, 99, 32, 51]⟩⟩] (WD 1 S17)) = true) ∧ (ending Tryz.prog cf0 100000 10 ⟨bld (lD 1 S17), nD 1 S17, [], .off⟩ (rn10 (dropSeq 8 c10) (envD X10 z17) (WD X10 z17)) = .ok (.string ⟨⟨[111, 107]⟩⟩) ⟨bld (lD X10 z17), nD X10 z17, [], .off⟩) ∧ (nD 1 S18 = 310) ∧ (okN 310 X10 z18 (in10 o0 8 [.pointer (some ⟨88, 0, none⟩), .string ⟨⟨[100, 111, 32, 50, 32, 50, 32, 53, 32, 34, 34, 32, 116, 32, 51]⟩⟩] (WD 1 S18)) = true) ∧ (ending Tryz.prog cf0 100000 10 ⟨bld (lD 1 S18), nD 1 S18, [], .off⟩ (rn10 (dropSeq 8 c10) (envD X10 z18) (WD X10 z18)) = .ok (.string ⟨⟨[114, 105, 103, 104, 116, 115]⟩⟩) ⟨bld (lD X10 z18), nD X10 z18, [], .off⟩) := ⟨by kernel_rfl, by kernel_rfl, by kernel_rfl, by kernel_rfl, by kernel_rfl, by kernel_rfl⟩
theorem S17_b : nD 1 S17 = 385 := Y6l0.1
theorem z17_h : okN 385 X10 z17 (in10 y9_o 8 [.pointer (some ⟨88, 0, none⟩), .string ⟨⟨[115, 121, 110, 99, 32, 51]⟩⟩] (WD 1 S17)) = true := Y6l0.2.1
theorem z17_e : ending Tryz.prog cf0 100000 10 ⟨bld (lD 1 S17), nD 1 S17, [], .off⟩ (rn10 (dropSeq 8 c10) (envD X10 z17) (WD X10 z17)) = .ok (.string ⟨⟨[111, 107]⟩⟩) ⟨bld (lD X10 z17), nD X10 z17, [], .off⟩ := Y6l0.2.2.1
theorem S18_b : nD 1 S18 = 310 := Y6l0.2.2.2.1
theorem z18_h : okN 310 X10 z18 (in10 o0 8 [.pointer (some ⟨88, 0, none⟩), .string ⟨⟨[100, 111, 32, 50, 32, 50, 32, 53, 32, 34, 34, 32, 116, 32, 51]⟩⟩] (WD 1 S18)) = true := Y6l0.2.2.2.2.1
theorem z18_e : ending Tryz.prog cf0 100000 10 ⟨bld (lD 1 S18), nD 1 S18, [], .off⟩ (rn10 (dropSeq 8 c10) (envD X10 z18) (WD X10 z18)) = .ok (.string ⟨⟨[114, 105, 103, 104, 116, 115]⟩⟩) ⟨bld (lD X10 z18), nD X10 z18, [], .off⟩ := Y6l0.2.2.2.2.2
theorem l17_S {T : List Value} {wB : World} : CallS Tryz.prog (symG T) wB 10 [.pointer (some ⟨88, 0, none⟩), .string ⟨⟨[115, 121, 110, 99, 32, 51]⟩⟩] (lD 1 S17) (nD 1 S17) (.string ⟨⟨[111, 107]⟩⟩) (lD X10 z17) (nD X10 z17) := call10 (q := 8) (z := z17) (by decide) S17_b y9_ok z17_h z17_e
noncomputable def l17_o : Orc := orcF 10 [.pointer (some ⟨88, 0, none⟩), .string ⟨⟨[115, 121, 110, 99, 32, 51]⟩⟩] (lD 1 S17) (nD 1 S17) (.string ⟨⟨[111, 107]⟩⟩) (lD X10 z17) (nD X10 z17)
theorem l17_ok {T : List Value} {wB : World} : OrcOkH Tryz.prog (symG T) wB l17_o := orcF_ok l17_S
theorem l18_S {T : List Value} {wB : World} : CallS Tryz.prog (symG T) wB 10 [.pointer (some ⟨88, 0, none⟩), .string ⟨⟨[100, 111, 32, 50, 32, 50, 32, 53, 32, 34, 34, 32, 116, 32, 51]⟩⟩] (lD 1 S18) (nD 1 S18) (.string ⟨⟨[114, 105, 103, 104, 116, 115]⟩⟩) (lD X10 z18) (nD X10 z18) := call10 (q := 8) (z := z18) (by decide) S18_b o0_ok z18_h z18_e
noncomputable def l18_o : Orc := orcF 10 [.pointer (some ⟨88, 0, none⟩), .string ⟨⟨[100, 111, 32, 50, 32, 50, 32, 53, 32, 34, 34, 32, 116, 32, 51]⟩⟩] (lD 1 S18) (nD 1 S18) (.string ⟨⟨[114, 105, 103, 104, 116, 115]⟩⟩) (lD X10 z18) (nD X10 z18)
theorem l18_ok {T : List Value} {wB : World} : OrcOkH Tryz.prog (symG T) wB l18_o := orcF_ok l18_S

end Go.Proofs.YtoignhfhljlnbaaGreatDoor
