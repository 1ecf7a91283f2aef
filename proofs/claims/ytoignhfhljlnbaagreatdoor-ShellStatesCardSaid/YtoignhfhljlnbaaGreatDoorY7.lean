/- The law ShellStates: lines (7). -/
import Derived.Test.YtoignhfhljlnbaaGreatDoorXn0
namespace Go.Proofs.YtoignhfhljlnbaaGreatDoor
open Go Go.Cx Go.RowKit

set_option maxRecDepth 1000000 in
theorem Y7s0 : (nD 1 T10 = 371) ∧ (okN 371 X113 y10_0 (start113 1 T10 35 4 1) = true) := ⟨by kernel_rfl, by kernel_rfl⟩
theorem y10_b : nD 1 T10 = 371 := Y7s0.1
theorem y10_0_h : okN 371 X113 y10_0 (start113 1 T10 35 4 1) = true := Y7s0.2
set_option maxRecDepth 1000000 in
theorem y10_1_h : okN 371 X113 y10_1 (go113 y10_0 2) = true := by kernel_rfl
set_option maxRecDepth 1000000 in
theorem Y7s2 : (okN 371 X113 y10_2 (go113 y10_1 1) = true) ∧ (rn113 xS (envD X113 y10_2) (WD X113 y10_2) = .ex 0 (exE (rn113 xS (envD X113 y10_2) (WD X113 y10_2))) (WD X113 y10_2)) ∧ (ending Tryz.prog cf0 100000 113 ⟨bld (lD 1 T10), nD 1 T10, [], .off⟩ (.go (exE (rn113 xS (envD X113 y10_2) (WD X113 y10_2))) (WD X113 y10_2)) = .ok (.tuple #[]) ⟨bld (lD X113 y10_2), nD X113 y10_2, [], .off⟩) := ⟨by kernel_rfl, by kernel_rfl, by kernel_rfl⟩
theorem y10_2_h : okN 371 X113 y10_2 (go113 y10_1 1) = true := Y7s2.1
theorem y10_l : rn113 xS (envD X113 y10_2) (WD X113 y10_2) = .ex 0 (exE (rn113 xS (envD X113 y10_2) (WD X113 y10_2))) (WD X113 y10_2) := Y7s2.2.1
theorem y10_e : ending Tryz.prog cf0 100000 113 ⟨bld (lD 1 T10), nD 1 T10, [], .off⟩ (.go (exE (rn113 xS (envD X113 y10_2) (WD X113 y10_2))) (WD X113 y10_2)) = .ok (.tuple #[]) ⟨bld (lD X113 y10_2), nD X113 y10_2, [], .off⟩ := Y7s2.2.2
theorem y10_S {gB : Gh} {wB : World} : CallS Tryz.prog gB wB 113 [.pointer (some ⟨35, 0, none⟩), numV 4] (lD 1 T10) (nD 1 T10) (.tuple #[]) (lD X113 y10_2) (nD X113 y10_2) := by
  refine sync_start (x := T10) (y := y10_0) y10_b y10_0_h ?_
  refine sync_go (x := y10_0) (y := y10_1) ?_ y10_1_h ?_
  · exact Wn y10_b
  refine sync_go (x := y10_1) (y := y10_2) ?_ y10_2_h ?_
  · exact Wn y10_b
  exact sync_last (x := y10_2) y10_l y10_e
noncomputable def y10_o : FuncId → List Value → W → Option Re := orcF 113 [.pointer (some ⟨35, 0, none⟩), numV 4] (lD 1 T10) (nD 1 T10) (.tuple #[]) (lD X113 y10_2) (nD X113 y10_2)
theorem y10_ok {T : List Value} {wB : World} : OrcOkH Tryz.prog (symG T) wB y10_o := orcF_ok y10_S
set_option maxRecDepth 1000000 in
theorem Y7l0 : (nD 1 S19 = 361) ∧ (okN 361 X10 z19 (in10 y10_o 8 [.pointer (some ⟨88, 0, none⟩), .string ⟨⟨[115, 121, 110, 99, 32, 52]⟩⟩] (WD 1 S19)) = true) ∧ (ending Tryz.prog cf0 100000 10 ⟨bld (lD 1 S19), nD 1 S19, [], .off⟩ (rn10 (dropSeq 8 c10) (envD X10 z19) (WD X10 z19)) = .ok (.string ⟨⟨[111, 107]⟩⟩) ⟨bld (lD X10 z19), nD X10 z19, [], .off⟩) ∧ (nD 1 S20 = 361) ∧ (okN 361 X10 z20 (in10 o0 8 [.pointer (some ⟨88, 0, none⟩), .string ⟨⟨[108, 111, 115, 101, 32, 50]⟩⟩] (WD 1 S20)) = true) ∧ (ending Tryz.prog cf0 100000 10 ⟨bld (lD 1 S20), nD 1 S20, [], .off⟩ (rn10 (dropSeq 8 c10) (envD X10 z20) (WD X10 z20)) = .ok (.string ⟨⟨[111, 107]⟩⟩) ⟨bld (lD X10 z20), nD X10 z20, [], .off⟩) := ⟨by kernel_rfl, by kernel_rfl, by kernel_rfl, by kernel_rfl, by kernel_rfl, by kernel_rfl⟩
theorem S19_b : nD 1 S19 = 361 := Y7l0.1
theorem z19_h : okN 361 X10 z19 (in10 y10_o 8 [.pointer (some ⟨88, 0, none⟩), .string ⟨⟨[115, 121, 110, 99, 32, 52]⟩⟩] (WD 1 S19)) = true := Y7l0.2.1
theorem z19_e : ending Tryz.prog cf0 100000 10 ⟨bld (lD 1 S19), nD 1 S19, [], .off⟩ (rn10 (dropSeq 8 c10) (envD X10 z19) (WD X10 z19)) = .ok (.string ⟨⟨[111, 107]⟩⟩) ⟨bld (lD X10 z19), nD X10 z19, [], .off⟩ := Y7l0.2.2.1
theorem S20_b : nD 1 S20 = 361 := Y7l0.2.2.2.1
theorem z20_h : okN 361 X10 z20 (in10 o0 8 [.pointer (some ⟨88, 0, none⟩), .string ⟨⟨[108, 111, 115, 101, 32, 50]⟩⟩] (WD 1 S20)) = true := Y7l0.2.2.2.2.1
theorem z20_e : ending Tryz.prog cf0 100000 10 ⟨bld (lD 1 S20), nD 1 S20, [], .off⟩ (rn10 (dropSeq 8 c10) (envD X10 z20) (WD X10 z20)) = .ok (.string ⟨⟨[111, 107]⟩⟩) ⟨bld (lD X10 z20), nD X10 z20, [], .off⟩ := Y7l0.2.2.2.2.2
theorem l19_S {T : List Value} {wB : World} : CallS Tryz.prog (symG T) wB 10 [.pointer (some ⟨88, 0, none⟩), .string ⟨⟨[115, 121, 110, 99, 32, 52]⟩⟩] (lD 1 S19) (nD 1 S19) (.string ⟨⟨[111, 107]⟩⟩) (lD X10 z19) (nD X10 z19) := call10 (q := 8) (z := z19) (by decide) S19_b y10_ok z19_h z19_e
noncomputable def l19_o : Orc := orcF 10 [.pointer (some ⟨88, 0, none⟩), .string ⟨⟨[115, 121, 110, 99, 32, 52]⟩⟩] (lD 1 S19) (nD 1 S19) (.string ⟨⟨[111, 107]⟩⟩) (lD X10 z19) (nD X10 z19)
theorem l19_ok {T : List Value} {wB : World} : OrcOkH Tryz.prog (symG T) wB l19_o := orcF_ok l19_S
theorem l20_S {T : List Value} {wB : World} : CallS Tryz.prog (symG T) wB 10 [.pointer (some ⟨88, 0, none⟩), .string ⟨⟨[108, 111, 115, 101, 32, 50]⟩⟩] (lD 1 S20) (nD 1 S20) (.string ⟨⟨[111, 107]⟩⟩) (lD X10 z20) (nD X10 z20) := call10 (q := 8) (z := z20) (by decide) S20_b o0_ok z20_h z20_e
noncomputable def l20_o : Orc := orcF 10 [.pointer (some ⟨88, 0, none⟩), .string ⟨⟨[108, 111, 115, 101, 32, 50]⟩⟩] (lD 1 S20) (nD 1 S20) (.string ⟨⟨[111, 107]⟩⟩) (lD X10 z20) (nD X10 z20)
theorem l20_ok {T : List Value} {wB : World} : OrcOkH Tryz.prog (symG T) wB l20_o := orcF_ok l20_S

end Go.Proofs.YtoignhfhljlnbaaGreatDoor
