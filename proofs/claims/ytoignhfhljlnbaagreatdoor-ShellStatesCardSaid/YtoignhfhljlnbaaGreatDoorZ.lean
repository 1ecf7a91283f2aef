/- The law ShellStates: all its cases. -/
import Derived.Test.YtoignhfhljlnbaaGreatDoorR0
import Derived.Test.YtoignhfhljlnbaaGreatDoorR1
import Derived.Test.YtoignhfhljlnbaaGreatDoorR2
import Derived.Test.YtoignhfhljlnbaaGreatDoorR3
namespace Go.Proofs.YtoignhfhljlnbaaGreatDoor
open Go Go.Cx Go.RowKit

set_option maxRecDepth 1000000 in
theorem kk : (isB true (cfo (orcV (orcL 0 r00_s r00_a)) 3 [sy 0, .bool false] w02) = true) ∧ (isB true (cfo (orcV (orcL 0 r01_s r01_a)) 3 [sy 0, .bool true] w02) = true) ∧ (isB true (cfo (orcV (orcL 1 r10_s r10_a)) 3 [sy 0, .bool false] w02) = true) ∧ (isB true (cfo (orcV (orcL 1 r11_s r11_a)) 3 [sy 0, .bool true] w02) = true) ∧ (isB true (cfo (orcV (orcL 2 r20_s r20_a)) 3 [sy 0, .bool false] w02) = true) ∧ (isB true (cfo (orcV (orcL 2 r21_s r21_a)) 3 [sy 0, .bool true] w02) = true) ∧ (isB true (cfo (orcV (orcL 3 r30_s r30_a)) 3 [sy 0, .bool false] w02) = true) ∧ (isB true (cfo (orcV (orcL 3 r31_s r31_a)) 3 [sy 0, .bool true] w02) = true) ∧ (isB true (cfo (orcV (orcL 4 r40_s r40_a)) 3 [sy 0, .bool false] w02) = true) ∧ (isB true (cfo (orcV (orcL 4 r41_s r41_a)) 3 [sy 0, .bool true] w02) = true) ∧ (isB true (cfo (orcV (orcL 5 r50_s r50_a)) 3 [sy 0, .bool false] w02) = true) ∧ (isB true (cfo (orcV (orcL 5 r51_s r51_a)) 3 [sy 0, .bool true] w02) = true) := ⟨by kernel_rfl, by kernel_rfl, by kernel_rfl, by kernel_rfl, by kernel_rfl, by kernel_rfl, by kernel_rfl, by kernel_rfl, by kernel_rfl, by kernel_rfl, by kernel_rfl, by kernel_rfl⟩
theorem k00 : isB true (cfo (orcV (orcL 0 r00_s r00_a)) 3 [sy 0, .bool false] w02) = true := kk.1
theorem k01 : isB true (cfo (orcV (orcL 0 r01_s r01_a)) 3 [sy 0, .bool true] w02) = true := kk.2.1
theorem k10 : isB true (cfo (orcV (orcL 1 r10_s r10_a)) 3 [sy 0, .bool false] w02) = true := kk.2.2.1
theorem k11 : isB true (cfo (orcV (orcL 1 r11_s r11_a)) 3 [sy 0, .bool true] w02) = true := kk.2.2.2.1
theorem k20 : isB true (cfo (orcV (orcL 2 r20_s r20_a)) 3 [sy 0, .bool false] w02) = true := kk.2.2.2.2.1
theorem k21 : isB true (cfo (orcV (orcL 2 r21_s r21_a)) 3 [sy 0, .bool true] w02) = true := kk.2.2.2.2.2.1
theorem k30 : isB true (cfo (orcV (orcL 3 r30_s r30_a)) 3 [sy 0, .bool false] w02) = true := kk.2.2.2.2.2.2.1
theorem k31 : isB true (cfo (orcV (orcL 3 r31_s r31_a)) 3 [sy 0, .bool true] w02) = true := kk.2.2.2.2.2.2.2.1
theorem k40 : isB true (cfo (orcV (orcL 4 r40_s r40_a)) 3 [sy 0, .bool false] w02) = true := kk.2.2.2.2.2.2.2.2.1
theorem k41 : isB true (cfo (orcV (orcL 4 r41_s r41_a)) 3 [sy 0, .bool true] w02) = true := kk.2.2.2.2.2.2.2.2.2.1
theorem k50 : isB true (cfo (orcV (orcL 5 r50_s r50_a)) 3 [sy 0, .bool false] w02) = true := kk.2.2.2.2.2.2.2.2.2.2.1
theorem k51 : isB true (cfo (orcV (orcL 5 r51_s r51_a)) 3 [sy 0, .bool true] w02) = true := kk.2.2.2.2.2.2.2.2.2.2.2
theorem law_calls (x0 : Int) (x1 : Bool) (w : World) : Calls Tryz.prog 3 #[.int .i64 x0, .bool x1] w fun e w' => e = .returned (.bool true) ∧ Below w.heap.size w w' := by
  obtain ⟨n0, h0⟩ : ∃ n : Nat, x0 % 6 = n := ⟨(x0 % 6).toNat, by omega⟩
  have b0 : n0 < 6 := by omega
  match n0, h0, b0, x1 with
  | 0, h0, _, false => exact law_leaf h0 rfl rfl r00_c k00 w
  | 0, h0, _, true => exact law_leaf h0 rfl rfl r01_c k01 w
  | 1, h0, _, false => exact law_leaf h0 rfl rfl r10_c k10 w
  | 1, h0, _, true => exact law_leaf h0 rfl rfl r11_c k11 w
  | 2, h0, _, false => exact law_leaf h0 rfl rfl r20_c k20 w
  | 2, h0, _, true => exact law_leaf h0 rfl rfl r21_c k21 w
  | 3, h0, _, false => exact law_leaf h0 rfl rfl r30_c k30 w
  | 3, h0, _, true => exact law_leaf h0 rfl rfl r31_c k31 w
  | 4, h0, _, false => exact law_leaf h0 rfl rfl r40_c k40 w
  | 4, h0, _, true => exact law_leaf h0 rfl rfl r41_c k41 w
  | 5, h0, _, false => exact law_leaf h0 rfl rfl r50_c k50 w
  | 5, h0, _, true => exact law_leaf h0 rfl rfl r51_c k51 w
  | n0 + 6, _, h, _ => exact absurd h (by omega)

end Go.Proofs.YtoignhfhljlnbaaGreatDoor
