/- The law EdgeMerges where n comes to 0: its states, round by round. -/
import Derived.Test.YtkglhjcbdomaaaaGreatMc
namespace Go.Proofs.YtkglhjcbdomaaaaGreat
open Go Go.Cx Go.RowKit

def m0_0 : Nat := 0x10010010010010010010010110010010110110211b90615f91c90690010010010412c95a95791210b10010010010010010010010010010110111e96494c158104100100100102e00000000100100500b00b00b00300000000000100400000301b01b00000000000000000000800300300000002c01800001b01b01b01b01b01b01b01b01b01b01b01b01b01b01b01b01b01b01b00000000001b01b01b00000000000000800801a02e00000000102e0510100120020000000010020a910000000204301b17002e02e00000003400302000000000800000000100804906306306306306306306300300306306306306300000000002201200300105b000005
set_option maxRecDepth 1000000 in
theorem ms0 : startB 0 m0_0 = true := by kernel_rfl
set_option maxRecDepth 1000000 in
theorem ml0 : lastB m0_0 = true := by kernel_rfl
theorem me0_0 {n late : Int} {wB : World} : Cx.EndsL Tryz.prog ⟨N3, X3, symG (lv n late 0), wB, w02⟩ x3 (envD 2 X3 m0_0) (WD 2 X3 m0_0) (Left n late 0 wB) := last_ends ml0
theorem mc0 {n late : Int} {wB : World} (h : n % 15 = (0 : Nat)) : Calls Tryz.prog 3 #[.int .i64 n, .int .i64 late] wB fun e w' => e = .returned (.bool true) ∧ Below wB.heap.size wB w' :=
  start_calls h ms0 me0_0

end Go.Proofs.YtkglhjcbdomaaaaGreat
