/- The law ShellStates: lines (1). -/
import Derived.Test.YtoignhfhljlnbaaGreatDoorXn0
namespace Go.Proofs.YtoignhfhljlnbaaGreatDoor
open Go Go.Cx Go.RowKit

set_option maxRecDepth 1000000 in
theorem Y1s0 : (nD 1 T1 = 260) ∧ (okN 260 X113 y1_0 (start113 1 T1 35 2 2) = true) ∧ (rn113 xS (envD X113 y1_0) (WD X113 y1_0) = .ex 0 (exE (rn113 xS (envD X113 y1_0) (WD X113 y1_0))) (WD X113 y1_0)) ∧ (ending Tryz.prog cf0 100000 113 ⟨bld (lD 1 T1), nD 1 T1, [], .off⟩ (.go (exE (rn113 xS (envD X113 y1_0) (WD X113 y1_0))) (WD X113 y1_0)) = .ok (.tuple #[]) ⟨bld (lD X113 y1_0), nD X113 y1_0, [], .off⟩) := ⟨by kernel_rfl, by kernel_rfl, by kernel_rfl, by kernel_rfl⟩
theorem y1_b : nD 1 T1 = 260 := Y1s0.1
theorem y1_0_h : okN 260 X113 y1_0 (start113 1 T1 35 2 2) = true := Y1s0.2.1
theorem y1_l : rn113 xS (envD X113 y1_0) (WD X113 y1_0) = .ex 0 (exE (rn113 xS (envD X113 y1_0) (WD X113 y1_0))) (WD X113 y1_0) := Y1s0.2.2.1
theorem y1_e : ending Tryz.prog cf0 100000 113 ⟨bld (lD 1 T1), nD 1 T1, [], .off⟩ (.go (exE (rn113 xS (envD X113 y1_0) (WD X113 y1_0))) (WD X113 y1_0)) = .ok (.tuple #[]) ⟨bld (lD X113 y1_0), nD X113 y1_0, [], .off⟩ := Y1s0.2.2.2
set_option maxRecDepth 1000000 in
theorem Y1s1 : (nD 1 T2 = 327) ∧ (okN 327 X113 y2_0 (start113 1 T2 35 4 3) = true) := ⟨by kernel_rfl, by kernel_rfl⟩
theorem y2_b : nD 1 T2 = 327 := Y1s1.1
theorem y2_0_h : okN 327 X113 y2_0 (start113 1 T2 35 4 3) = true := Y1s1.2
set_option maxRecDepth 1000000 in
theorem Y1s2 : (okN 327 X113 y2_1 (go113 y2_0 1) = true) ∧ (rn113 xS (envD X113 y2_1) (WD X113 y2_1) = .ex 0 (exE (rn113 xS (envD X113 y2_1) (WD X113 y2_1))) (WD X113 y2_1)) ∧ (ending Tryz.prog cf0 100000 113 ⟨bld (lD 1 T2), nD 1 T2, [], .off⟩ (.go (exE (rn113 xS (envD X113 y2_1) (WD X113 y2_1))) (WD X113 y2_1)) = .ok (.tuple #[]) ⟨bld (lD X113 y2_1), nD X113 y2_1, [], .off⟩) := ⟨by kernel_rfl, by kernel_rfl, by kernel_rfl⟩
theorem y2_1_h : okN 327 X113 y2_1 (go113 y2_0 1) = true := Y1s2.1
theorem y2_l : rn113 xS (envD X113 y2_1) (WD X113 y2_1) = .ex 0 (exE (rn113 xS (envD X113 y2_1) (WD X113 y2_1))) (WD X113 y2_1) := Y1s2.2.1
theorem y2_e : ending Tryz.prog cf0 100000 113 ⟨bld (lD 1 T2), nD 1 T2, [], .off⟩ (.go (exE (rn113 xS (envD X113 y2_1) (WD X113 y2_1))) (WD X113 y2_1)) = .ok (.tuple #[]) ⟨bld (lD X113 y2_1), nD X113 y2_1, [], .off⟩ := Y1s2.2.2
set_option maxRecDepth 1000000 in
theorem Y1s3 : (nD 1 T3 = 352) ∧ (okN 352 X113 y3_0 (start113 1 T3 35 3 3) = true) ∧ (rn113 xS (envD X113 y3_0) (WD X113 y3_0) = .ex 0 (exE (rn113 xS (envD X113 y3_0) (WD X113 y3_0))) (WD X113 y3_0)) ∧ (ending Tryz.prog cf0 100000 113 ⟨bld (lD 1 T3), nD 1 T3, [], .off⟩ (.go (exE (rn113 xS (envD X113 y3_0) (WD X113 y3_0))) (WD X113 y3_0)) = .ok (.tuple #[]) ⟨bld (lD X113 y3_0), nD X113 y3_0, [], .off⟩) := ⟨by kernel_rfl, by kernel_rfl, by kernel_rfl, by kernel_rfl⟩
theorem y3_b : nD 1 T3 = 352 := Y1s3.1
theorem y3_0_h : okN 352 X113 y3_0 (start113 1 T3 35 3 3) = true := Y1s3.2.1
theorem y3_l : rn113 xS (envD X113 y3_0) (WD X113 y3_0) = .ex 0 (exE (rn113 xS (envD X113 y3_0) (WD X113 y3_0))) (WD X113 y3_0) := Y1s3.2.2.1
theorem y3_e : ending Tryz.prog cf0 100000 113 ⟨bld (lD 1 T3), nD 1 T3, [], .off⟩ (.go (exE (rn113 xS (envD X113 y3_0) (WD X113 y3_0))) (WD X113 y3_0)) = .ok (.tuple #[]) ⟨bld (lD X113 y3_0), nD X113 y3_0, [], .off⟩ := Y1s3.2.2.2
theorem y1_S {gB : Gh} {wB : World} : CallS Tryz.prog gB wB 113 [.pointer (some ⟨35, 0, none⟩), numV 2] (lD 1 T1) (nD 1 T1) (.tuple #[]) (lD X113 y1_0) (nD X113 y1_0) := by
  refine sync_start (x := T1) (y := y1_0) y1_b y1_0_h ?_
  exact sync_last (x := y1_0) y1_l y1_e
noncomputable def y1_o : FuncId → List Value → W → Option Re := orcF 113 [.pointer (some ⟨35, 0, none⟩), numV 2] (lD 1 T1) (nD 1 T1) (.tuple #[]) (lD X113 y1_0) (nD X113 y1_0)
theorem y1_ok {T : List Value} {wB : World} : OrcOkH Tryz.prog (symG T) wB y1_o := orcF_ok y1_S
theorem y2_S {gB : Gh} {wB : World} : CallS Tryz.prog gB wB 113 [.pointer (some ⟨35, 0, none⟩), numV 4] (lD 1 T2) (nD 1 T2) (.tuple #[]) (lD X113 y2_1) (nD X113 y2_1) := by
  refine sync_start (x := T2) (y := y2_0) y2_b y2_0_h ?_
  refine sync_go (x := y2_0) (y := y2_1) ?_ y2_1_h ?_
  · exact Wn y2_b
  exact sync_last (x := y2_1) y2_l y2_e
noncomputable def y2_o : FuncId → List Value → W → Option Re := orcF 113 [.pointer (some ⟨35, 0, none⟩), numV 4] (lD 1 T2) (nD 1 T2) (.tuple #[]) (lD X113 y2_1) (nD X113 y2_1)
theorem y2_ok {T : List Value} {wB : World} : OrcOkH Tryz.prog (symG T) wB y2_o := orcF_ok y2_S
theorem y3_S {gB : Gh} {wB : World} : CallS Tryz.prog gB wB 113 [.pointer (some ⟨35, 0, none⟩), numV 3] (lD 1 T3) (nD 1 T3) (.tuple #[]) (lD X113 y3_0) (nD X113 y3_0) := by
  refine sync_start (x := T3) (y := y3_0) y3_b y3_0_h ?_
  exact sync_last (x := y3_0) y3_l y3_e
noncomputable def y3_o : FuncId → List Value → W → Option Re := orcF 113 [.pointer (some ⟨35, 0, none⟩), numV 3] (lD 1 T3) (nD 1 T3) (.tuple #[]) (lD X113 y3_0) (nD X113 y3_0)
theorem y3_ok {T : List Value} {wB : World} : OrcOkH Tryz.prog (symG T) wB y3_o := orcF_ok y3_S
set_option maxRecDepth 1000000 in
theorem Y1l0 : (nD 1 S1 = 242) ∧ (okN 242 X10 z1 (in10 o0 8 [.pointer (some ⟨88, 0, none⟩), .string ⟨⟨[99, 104, 101, 99, 107, 111, 117, 116, 32, 50, 32, 45, 32, 48, 32, 48, 32, 51, 32, 51, 48]⟩⟩] (WD 1 S1)) = true) ∧ (ending Tryz.prog cf0 100000 10 ⟨bld (lD 1 S1), nD 1 S1, [], .off⟩ (rn10 (dropSeq 8 c10) (envD X10 z1) (WD X10 z1)) = .ok (.string ⟨⟨[111, 107]⟩⟩) ⟨bld (lD X10 z1), nD X10 z1, [], .off⟩) ∧ (nD 1 S2 = 250) ∧ (okN 250 X10 z2 (in10 y1_o 8 [.pointer (some ⟨88, 0, none⟩), .string ⟨⟨[115, 121, 110, 99, 32, 50]⟩⟩] (WD 1 S2)) = true) ∧ (ending Tryz.prog cf0 100000 10 ⟨bld (lD 1 S2), nD 1 S2, [], .off⟩ (rn10 (dropSeq 8 c10) (envD X10 z2) (WD X10 z2)) = .ok (.string ⟨⟨[111, 107]⟩⟩) ⟨bld (lD X10 z2), nD X10 z2, [], .off⟩) ∧ (nD 1 S3 = 317) ∧ (okN 317 X10 z3 (in10 y2_o 8 [.pointer (some ⟨88, 0, none⟩), .string ⟨⟨[115, 121, 110, 99, 32, 52]⟩⟩] (WD 1 S3)) = true) ∧ (ending Tryz.prog cf0 100000 10 ⟨bld (lD 1 S3), nD 1 S3, [], .off⟩ (rn10 (dropSeq 8 c10) (envD X10 z3) (WD X10 z3)) = .ok (.string ⟨⟨[111, 107]⟩⟩) ⟨bld (lD X10 z3), nD X10 z3, [], .off⟩) ∧ (nD 1 S4 = 317) ∧ (okN 317 X10 z4 (in10 o0 8 [.pointer (some ⟨88, 0, none⟩), .string ⟨⟨[108, 111, 115, 101, 32, 50]⟩⟩] (WD 1 S4)) = true) ∧ (ending Tryz.prog cf0 100000 10 ⟨bld (lD 1 S4), nD 1 S4, [], .off⟩ (rn10 (dropSeq 8 c10) (envD X10 z4) (WD X10 z4)) = .ok (.string ⟨⟨[111, 107]⟩⟩) ⟨bld (lD X10 z4), nD X10 z4, [], .off⟩) ∧ (nD 1 S5 = 342) ∧ (okN 342 X10 z5 (in10 y3_o 8 [.pointer (some ⟨88, 0, none⟩), .string ⟨⟨[115, 121, 110, 99, 32, 51]⟩⟩] (WD 1 S5)) = true) ∧ (ending Tryz.prog cf0 100000 10 ⟨bld (lD 1 S5), nD 1 S5, [], .off⟩ (rn10 (dropSeq 8 c10) (envD X10 z5) (WD X10 z5)) = .ok (.string ⟨⟨[111, 107]⟩⟩) ⟨bld (lD X10 z5), nD X10 z5, [], .off⟩) ∧ (nD 1 S6 = 280) ∧ (okN 280 X10 z6 (in10 o0 8 [.pointer (some ⟨88, 0, none⟩), .string ⟨⟨[100, 111, 32, 50, 32, 50, 32, 53, 32, 34, 34, 32, 116, 32, 48]⟩⟩] (WD 1 S6)) = true) ∧ (ending Tryz.prog cf0 100000 10 ⟨bld (lD 1 S6), nD 1 S6, [], .off⟩ (rn10 (dropSeq 8 c10) (envD X10 z6) (WD X10 z6)) = .ok (.string ⟨⟨[111, 107]⟩⟩) ⟨bld (lD X10 z6), nD X10 z6, [], .off⟩) := ⟨by kernel_rfl, by kernel_rfl, by kernel_rfl, by kernel_rfl, by kernel_rfl, by kernel_rfl, by kernel_rfl, by kernel_rfl, by kernel_rfl, by kernel_rfl, by kernel_rfl, by kernel_rfl, by kernel_rfl, by kernel_rfl, by kernel_rfl, by kernel_rfl, by kernel_rfl, by kernel_rfl⟩
theorem S1_b : nD 1 S1 = 242 := Y1l0.1
theorem z1_h : okN 242 X10 z1 (in10 o0 8 [.pointer (some ⟨88, 0, none⟩), .string ⟨⟨[99, 104, 101, 99, 107, 111, 117, 116, 32, 50, 32, 45, 32, 48, 32, 48, 32, 51, 32, 51, 48]⟩⟩] (WD 1 S1)) = true := Y1l0.2.1
theorem z1_e : ending Tryz.prog cf0 100000 10 ⟨bld (lD 1 S1), nD 1 S1, [], .off⟩ (rn10 (dropSeq 8 c10) (envD X10 z1) (WD X10 z1)) = .ok (.string ⟨⟨[111, 107]⟩⟩) ⟨bld (lD X10 z1), nD X10 z1, [], .off⟩ := Y1l0.2.2.1
theorem S2_b : nD 1 S2 = 250 := Y1l0.2.2.2.1
theorem z2_h : okN 250 X10 z2 (in10 y1_o 8 [.pointer (some ⟨88, 0, none⟩), .string ⟨⟨[115, 121, 110, 99, 32, 50]⟩⟩] (WD 1 S2)) = true := Y1l0.2.2.2.2.1
theorem z2_e : ending Tryz.prog cf0 100000 10 ⟨bld (lD 1 S2), nD 1 S2, [], .off⟩ (rn10 (dropSeq 8 c10) (envD X10 z2) (WD X10 z2)) = .ok (.string ⟨⟨[111, 107]⟩⟩) ⟨bld (lD X10 z2), nD X10 z2, [], .off⟩ := Y1l0.2.2.2.2.2.1
theorem S3_b : nD 1 S3 = 317 := Y1l0.2.2.2.2.2.2.1
theorem z3_h : okN 317 X10 z3 (in10 y2_o 8 [.pointer (some ⟨88, 0, none⟩), .string ⟨⟨[115, 121, 110, 99, 32, 52]⟩⟩] (WD 1 S3)) = true := Y1l0.2.2.2.2.2.2.2.1
theorem z3_e : ending Tryz.prog cf0 100000 10 ⟨bld (lD 1 S3), nD 1 S3, [], .off⟩ (rn10 (dropSeq 8 c10) (envD X10 z3) (WD X10 z3)) = .ok (.string ⟨⟨[111, 107]⟩⟩) ⟨bld (lD X10 z3), nD X10 z3, [], .off⟩ := Y1l0.2.2.2.2.2.2.2.2.1
theorem S4_b : nD 1 S4 = 317 := Y1l0.2.2.2.2.2.2.2.2.2.1
theorem z4_h : okN 317 X10 z4 (in10 o0 8 [.pointer (some ⟨88, 0, none⟩), .string ⟨⟨[108, 111, 115, 101, 32, 50]⟩⟩] (WD 1 S4)) = true := Y1l0.2.2.2.2.2.2.2.2.2.2.1
theorem z4_e : ending Tryz.prog cf0 100000 10 ⟨bld (lD 1 S4), nD 1 S4, [], .off⟩ (rn10 (dropSeq 8 c10) (envD X10 z4) (WD X10 z4)) = .ok (.string ⟨⟨[111, 107]⟩⟩) ⟨bld (lD X10 z4), nD X10 z4, [], .off⟩ := Y1l0.2.2.2.2.2.2.2.2.2.2.2.1
theorem S5_b : nD 1 S5 = 342 := Y1l0.2.2.2.2.2.2.2.2.2.2.2.2.1
theorem z5_h : okN 342 X10 z5 (in10 y3_o 8 [.pointer (some ⟨88, 0, none⟩), .string ⟨⟨[115, 121, 110, 99, 32, 51]⟩⟩] (WD 1 S5)) = true := Y1l0.2.2.2.2.2.2.2.2.2.2.2.2.2.1
theorem z5_e : ending Tryz.prog cf0 100000 10 ⟨bld (lD 1 S5), nD 1 S5, [], .off⟩ (rn10 (dropSeq 8 c10) (envD X10 z5) (WD X10 z5)) = .ok (.string ⟨⟨[111, 107]⟩⟩) ⟨bld (lD X10 z5), nD X10 z5, [], .off⟩ := Y1l0.2.2.2.2.2.2.2.2.2.2.2.2.2.2.1
theorem S6_b : nD 1 S6 = 280 := Y1l0.2.2.2.2.2.2.2.2.2.2.2.2.2.2.2.1
theorem z6_h : okN 280 X10 z6 (in10 o0 8 [.pointer (some ⟨88, 0, none⟩), .string ⟨⟨[100, 111, 32, 50, 32, 50, 32, 53, 32, 34, 34, 32, 116, 32, 48]⟩⟩] (WD 1 S6)) = true := Y1l0.2.2.2.2.2.2.2.2.2.2.2.2.2.2.2.2.1
theorem z6_e : ending Tryz.prog cf0 100000 10 ⟨bld (lD 1 S6), nD 1 S6, [], .off⟩ (rn10 (dropSeq 8 c10) (envD X10 z6) (WD X10 z6)) = .ok (.string ⟨⟨[111, 107]⟩⟩) ⟨bld (lD X10 z6), nD X10 z6, [], .off⟩ := Y1l0.2.2.2.2.2.2.2.2.2.2.2.2.2.2.2.2.2
theorem l1_S {T : List Value} {wB : World} : CallS Tryz.prog (symG T) wB 10 [.pointer (some ⟨88, 0, none⟩), .string ⟨⟨[99, 104, 101, 99, 107, 111, 117, 116, 32, 50, 32, 45, 32, 48, 32, 48, 32, 51, 32, 51, 48]⟩⟩] (lD 1 S1) (nD 1 S1) (.string ⟨⟨[111, 107]⟩⟩) (lD X10 z1) (nD X10 z1) := call10 (q := 8) (z := z1) (by decide) S1_b o0_ok z1_h z1_e
noncomputable def l1_o : Orc := orcF 10 [.pointer (some ⟨88, 0, none⟩), .string ⟨⟨[99, 104, 101, 99, 107, 111, 117, 116, 32, 50, 32, 45, 32, 48, 32, 48, 32, 51, 32, 51, 48]⟩⟩] (lD 1 S1) (nD 1 S1) (.string ⟨⟨[111, 107]⟩⟩) (lD X10 z1) (nD X10 z1)
theorem l1_ok {T : List Value} {wB : World} : OrcOkH Tryz.prog (symG T) wB l1_o := orcF_ok l1_S
theorem l2_S {T : List Value} {wB : World} : CallS Tryz.prog (symG T) wB 10 [.pointer (some ⟨88, 0, none⟩), .string ⟨⟨[115, 121, 110, 99, 32, 50]⟩⟩] (lD 1 S2) (nD 1 S2) (.string ⟨⟨[111, 107]⟩⟩) (lD X10 z2) (nD X10 z2) := call10 (q := 8) (z := z2) (by decide) S2_b y1_ok z2_h z2_e
noncomputable def l2_o : Orc := orcF 10 [.pointer (some ⟨88, 0, none⟩), .string ⟨⟨[115, 121, 110, 99, 32, 50]⟩⟩] (lD 1 S2) (nD 1 S2) (.string ⟨⟨[111, 107]⟩⟩) (lD X10 z2) (nD X10 z2)
theorem l2_ok {T : List Value} {wB : World} : OrcOkH Tryz.prog (symG T) wB l2_o := orcF_ok l2_S
theorem l3_S {T : List Value} {wB : World} : CallS Tryz.prog (symG T) wB 10 [.pointer (some ⟨88, 0, none⟩), .string ⟨⟨[115, 121, 110, 99, 32, 52]⟩⟩] (lD 1 S3) (nD 1 S3) (.string ⟨⟨[111, 107]⟩⟩) (lD X10 z3) (nD X10 z3) := call10 (q := 8) (z := z3) (by decide) S3_b y2_ok z3_h z3_e
noncomputable def l3_o : Orc := orcF 10 [.pointer (some ⟨88, 0, none⟩), .string ⟨⟨[115, 121, 110, 99, 32, 52]⟩⟩] (lD 1 S3) (nD 1 S3) (.string ⟨⟨[111, 107]⟩⟩) (lD X10 z3) (nD X10 z3)
theorem l3_ok {T : List Value} {wB : World} : OrcOkH Tryz.prog (symG T) wB l3_o := orcF_ok l3_S
theorem l4_S {T : List Value} {wB : World} : CallS Tryz.prog (symG T) wB 10 [.pointer (some ⟨88, 0, none⟩), .string ⟨⟨[108, 111, 115, 101, 32, 50]⟩⟩] (lD 1 S4) (nD 1 S4) (.string ⟨⟨[111, 107]⟩⟩) (lD X10 z4) (nD X10 z4) := call10 (q := 8) (z := z4) (by decide) S4_b o0_ok z4_h z4_e
noncomputable def l4_o : Orc := orcF 10 [.pointer (some ⟨88, 0, none⟩), .string ⟨⟨[108, 111, 115, 101, 32, 50]⟩⟩] (lD 1 S4) (nD 1 S4) (.string ⟨⟨[111, 107]⟩⟩) (lD X10 z4) (nD X10 z4)
theorem l4_ok {T : List Value} {wB : World} : OrcOkH Tryz.prog (symG T) wB l4_o := orcF_ok l4_S
theorem l5_S {T : List Value} {wB : World} : CallS Tryz.prog (symG T) wB 10 [.pointer (some ⟨88, 0, none⟩), .string ⟨⟨[115, 121, 110, 99, 32, 51]⟩⟩] (lD 1 S5) (nD 1 S5) (.string ⟨⟨[111, 107]⟩⟩) (lD X10 z5) (nD X10 z5) := call10 (q := 8) (z := z5) (by decide) S5_b y3_ok z5_h z5_e
noncomputable def l5_o : Orc := orcF 10 [.pointer (some ⟨88, 0, none⟩), .string ⟨⟨[115, 121, 110, 99, 32, 51]⟩⟩] (lD 1 S5) (nD 1 S5) (.string ⟨⟨[111, 107]⟩⟩) (lD X10 z5) (nD X10 z5)
theorem l5_ok {T : List Value} {wB : World} : OrcOkH Tryz.prog (symG T) wB l5_o := orcF_ok l5_S
theorem l6_S {T : List Value} {wB : World} : CallS Tryz.prog (symG T) wB 10 [.pointer (some ⟨88, 0, none⟩), .string ⟨⟨[100, 111, 32, 50, 32, 50, 32, 53, 32, 34, 34, 32, 116, 32, 48]⟩⟩] (lD 1 S6) (nD 1 S6) (.string ⟨⟨[111, 107]⟩⟩) (lD X10 z6) (nD X10 z6) := call10 (q := 8) (z := z6) (by decide) S6_b o0_ok z6_h z6_e
noncomputable def l6_o : Orc := orcF 10 [.pointer (some ⟨88, 0, none⟩), .string ⟨⟨[100, 111, 32, 50, 32, 50, 32, 53, 32, 34, 34, 32, 116, 32, 48]⟩⟩] (lD 1 S6) (nD 1 S6) (.string ⟨⟨[111, 107]⟩⟩) (lD X10 z6) (nD X10 z6)
theorem l6_ok {T : List Value} {wB : World} : OrcOkH Tryz.prog (symG T) wB l6_o := orcF_ok l6_S

end Go.Proofs.YtoignhfhljlnbaaGreatDoor
