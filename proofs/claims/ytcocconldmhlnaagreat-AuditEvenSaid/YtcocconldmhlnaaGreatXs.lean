/- The law AuditEven: the world ahead of the choice. -/
import Derived.Test.YtcocconldmhlnaaGreatXr
namespace Go.Proofs.YtcocconldmhlnaaGreat
open Go Go.Cx Go.RowKit

set_option maxRecDepth 1000000 in
theorem ey_g0 : (okN 2 X4 ex (startE 4) = true) ∧ (nD X4 ex = 25) ∧ (okN 25 X10 ey_1 (start10 X4 ex 5 14 3) = true) ∧ (okN 25 X10 ey_2 (go10 ey_1 1) = true) ∧ (okN 25 X10 ey_3 (go10 ey_2 1) = true) ∧ (okN 25 X10 ey_4 (go10 ey_3 1) = true) := ⟨by kernel_rfl, by kernel_rfl, by kernel_rfl, by kernel_rfl, by kernel_rfl, by kernel_rfl⟩
theorem ex_h : okN 2 X4 ex (startE 4) = true := ey_g0.1
theorem ey_b : nD X4 ex = 25 := ey_g0.2.1
theorem ey_1_h : okN 25 X10 ey_1 (start10 X4 ex 5 14 3) = true := ey_g0.2.2.1
theorem ey_2_h : okN 25 X10 ey_2 (go10 ey_1 1) = true := ey_g0.2.2.2.1
theorem ey_3_h : okN 25 X10 ey_3 (go10 ey_2 1) = true := ey_g0.2.2.2.2.1
theorem ey_4_h : okN 25 X10 ey_4 (go10 ey_3 1) = true := ey_g0.2.2.2.2.2
set_option maxRecDepth 1000000 in
theorem ey_g1 : (okN 25 X10 ey_5 (go10 ey_4 1) = true) ∧ (okN 25 X10 ey_6 (go10 ey_5 1) = true) := ⟨by kernel_rfl, by kernel_rfl⟩
theorem ey_5_h : okN 25 X10 ey_5 (go10 ey_4 1) = true := ey_g1.1
theorem ey_6_h : okN 25 X10 ey_6 (go10 ey_5 1) = true := ey_g1.2
set_option maxRecDepth 1000000 in
theorem ey_g2 : (okN 25 X10 ey_7 (go10 ey_6 1) = true) ∧ (okN 25 X10 ey_8 (go10 ey_7 1) = true) ∧ (okN 25 X10 ey_9 (go10 ey_8 1) = true) := ⟨by kernel_rfl, by kernel_rfl, by kernel_rfl⟩
theorem ey_7_h : okN 25 X10 ey_7 (go10 ey_6 1) = true := ey_g2.1
theorem ey_8_h : okN 25 X10 ey_8 (go10 ey_7 1) = true := ey_g2.2.1
theorem ey_9_h : okN 25 X10 ey_9 (go10 ey_8 1) = true := ey_g2.2.2
set_option maxRecDepth 1000000 in
theorem ey_g3 : (okN 25 X10 ey_10 (go10 ey_9 1) = true) ∧ (okN 25 X10 ey_11 (go10 ey_10 1) = true) ∧ (okN 25 X10 ey_12 (go10 ey_11 1) = true) ∧ (rn10 xS (envD X10 ey_12) (WD X10 ey_12) = .ex 0 (exE (rn10 xS (envD X10 ey_12) (WD X10 ey_12))) (WD X10 ey_12)) ∧ (ending Tryz.prog cf0 100000 10 ⟨bld (lD X4 ex), nD X4 ex, [], .off⟩ (.go (exE (rn10 xS (envD X10 ey_12) (WD X10 ey_12))) (WD X10 ey_12)) = .ok (.tuple #[]) ⟨bld (lD X10 ey_12), nD X10 ey_12, [], .off⟩) := ⟨by kernel_rfl, by kernel_rfl, by kernel_rfl, by kernel_rfl, by kernel_rfl⟩
theorem ey_10_h : okN 25 X10 ey_10 (go10 ey_9 1) = true := ey_g3.1
theorem ey_11_h : okN 25 X10 ey_11 (go10 ey_10 1) = true := ey_g3.2.1
theorem ey_12_h : okN 25 X10 ey_12 (go10 ey_11 1) = true := ey_g3.2.2.1
theorem ey_l : rn10 xS (envD X10 ey_12) (WD X10 ey_12) = .ex 0 (exE (rn10 xS (envD X10 ey_12) (WD X10 ey_12))) (WD X10 ey_12) := ey_g3.2.2.2.1
theorem ey_e : ending Tryz.prog cf0 100000 10 ⟨bld (lD X4 ex), nD X4 ex, [], .off⟩ (.go (exE (rn10 xS (envD X10 ey_12) (WD X10 ey_12))) (WD X10 ey_12)) = .ok (.tuple #[]) ⟨bld (lD X10 ey_12), nD X10 ey_12, [], .off⟩ := ey_g3.2.2.2.2
theorem ey_S {gB : Gh} {wB : World} : CallS Tryz.prog gB wB 10 [.pointer (some ⟨5, 0, none⟩), numV 14] (lD X4 ex) (nD X4 ex) (.tuple #[]) (lD X10 ey_12) (nD X10 ey_12) := by
  refine sync_start (x := ex) (y := ey_1) ey_b ey_1_h ?_
  refine sync_go (x := ey_1) (y := ey_2) ?_ ey_2_h ?_
  · exact Wn ey_b
  refine sync_go (x := ey_2) (y := ey_3) ?_ ey_3_h ?_
  · exact Wn ey_b
  refine sync_go (x := ey_3) (y := ey_4) ?_ ey_4_h ?_
  · exact Wn ey_b
  refine sync_go (x := ey_4) (y := ey_5) ?_ ey_5_h ?_
  · exact Wn ey_b
  refine sync_go (x := ey_5) (y := ey_6) ?_ ey_6_h ?_
  · exact Wn ey_b
  refine sync_go (x := ey_6) (y := ey_7) ?_ ey_7_h ?_
  · exact Wn ey_b
  refine sync_go (x := ey_7) (y := ey_8) ?_ ey_8_h ?_
  · exact Wn ey_b
  refine sync_go (x := ey_8) (y := ey_9) ?_ ey_9_h ?_
  · exact Wn ey_b
  refine sync_go (x := ey_9) (y := ey_10) ?_ ey_10_h ?_
  · exact Wn ey_b
  refine sync_go (x := ey_10) (y := ey_11) ?_ ey_11_h ?_
  · exact Wn ey_b
  refine sync_go (x := ey_11) (y := ey_12) ?_ ey_12_h ?_
  · exact Wn ey_b
  exact sync_last (x := ey_12) ey_l ey_e
noncomputable def ey_o : FuncId → List Value → W → Option Re := orcS 10 [.pointer (some ⟨5, 0, none⟩), numV 14] (lD X4 ex) (nD X4 ex) (.tuple #[]) (lD X10 ey_12) (nD X10 ey_12)
theorem ey_ok {gB : Gh} {wB : World} : OrcOkH Tryz.prog gB wB ey_o := orcS_ok ey_S
set_option maxRecDepth 1000000 in
theorem A_h : okN 2 X4 A (at4 (orc2 ey_o (orcV orcA)) 4 3 ex) = true := by kernel_rfl
theorem head {n who : Int} {n0 w0 : Nat} {wB : World} (hn : n % 8 = n0) (hw : who % 3 = w0) (h : End n who n0 w0 wB 7 A) : Calls Tryz.prog 4 #[.int .i64 n, .int .i64 who] wB fun e w' => e = .returned (.bool true) ∧ Below wB.heap.size wB w' :=
  start_calls hn hw ex_h (End.mid (orc2_ok ey_ok (orcV_ok (orcA_ok hn hw))) A_h h)

end Go.Proofs.YtcocconldmhlnaaGreat
