/- The law ShellStates: scripts (0). -/
import Derived.Test.YtoignhfhljlnbaaGreatDoorY0
import Derived.Test.YtoignhfhljlnbaaGreatDoorY1
import Derived.Test.YtoignhfhljlnbaaGreatDoorY2
namespace Go.Proofs.YtoignhfhljlnbaaGreatDoor
open Go Go.Cx Go.RowKit

noncomputable def r00_o : Orc := (orc2 l0_o (orc2 l1_o (orc2 l2_o (orc2 l3_o o0))))
abbrev r00_s : Value := .string ⟨⟨[115, 116, 97, 116, 101, 32, 50, 10, 114, 101, 103, 105, 115, 116, 101, 114, 32, 50, 10, 115, 121, 110, 99, 32, 49, 52, 10, 99, 104, 101, 99, 107, 111, 117, 116, 32, 50, 32, 45, 32, 48, 32, 48, 32, 51, 32, 51, 48, 10, 115, 121, 110, 99, 32, 50, 10, 115, 116, 97, 116, 101, 32, 50, 10, 115, 121, 110, 99, 32, 52, 10, 115, 116, 97, 116, 101, 32, 50, 10]⟩⟩
abbrev r00_a : Value := .string ⟨⟨[111, 107, 32, 48, 32, 48, 32, 48, 32, 48, 32, 48, 32, 48, 32, 48, 10, 111, 107, 10, 111, 107, 10, 111, 107, 10, 111, 107, 10, 111, 107, 32, 49, 32, 48, 32, 48, 32, 48, 32, 48, 32, 51, 48, 32, 48, 10, 111, 107, 10, 111, 107, 32, 49, 32, 48, 32, 48, 32, 48, 32, 48, 32, 51, 48, 32, 48, 10]⟩⟩
set_option maxRecDepth 1000000 in
theorem r00_h : isV r00_a (cfo r00_o 7 [r00_s] w02) = true := by kernel_rfl
theorem r00_c (w : World) : Calls Tryz.prog 7 ⟨[r00_s]⟩ w fun e w' => e = .returned r00_a ∧ Below w.heap.size w w' :=
  val_of (cfo_ok (orc2_ok l0_ok (orc2_ok l1_ok (orc2_ok l2_ok (orc2_ok l3_ok o0_ok))))) (.cons (RV.self rfl) .nil) r00_h rfl
noncomputable def r01_o : Orc := (orc2 l0_o (orc2 l1_o (orc2 l2_o (orc2 l4_o (orc2 l5_o o0)))))
abbrev r01_s : Value := .string ⟨⟨[115, 116, 97, 116, 101, 32, 50, 10, 114, 101, 103, 105, 115, 116, 101, 114, 32, 50, 10, 115, 121, 110, 99, 32, 49, 52, 10, 99, 104, 101, 99, 107, 111, 117, 116, 32, 50, 32, 45, 32, 48, 32, 48, 32, 51, 32, 51, 48, 10, 115, 121, 110, 99, 32, 50, 10, 115, 116, 97, 116, 101, 32, 50, 10, 108, 111, 115, 101, 32, 50, 10, 115, 121, 110, 99, 32, 51, 10, 115, 116, 97, 116, 101, 32, 50, 10]⟩⟩
abbrev r01_a : Value := .string ⟨⟨[111, 107, 32, 48, 32, 48, 32, 48, 32, 48, 32, 48, 32, 48, 32, 48, 10, 111, 107, 10, 111, 107, 10, 111, 107, 10, 111, 107, 10, 111, 107, 32, 49, 32, 48, 32, 48, 32, 48, 32, 48, 32, 51, 48, 32, 48, 10, 111, 107, 10, 111, 107, 10, 111, 107, 32, 49, 32, 48, 32, 48, 32, 48, 32, 48, 32, 51, 48, 32, 48, 10]⟩⟩
set_option maxRecDepth 1000000 in
theorem r01_h : isV r01_a (cfo r01_o 7 [r01_s] w02) = true := by kernel_rfl
theorem r01_c (w : World) : Calls Tryz.prog 7 ⟨[r01_s]⟩ w fun e w' => e = .returned r01_a ∧ Below w.heap.size w w' :=
  val_of (cfo_ok (orc2_ok l0_ok (orc2_ok l1_ok (orc2_ok l2_ok (orc2_ok l4_ok (orc2_ok l5_ok o0_ok)))))) (.cons (RV.self rfl) .nil) r01_h rfl
noncomputable def r10_o : Orc := (orc2 l0_o (orc2 l1_o (orc2 l2_o (orc2 l6_o (orc2 l7_o o0)))))
abbrev r10_s : Value := .string ⟨⟨[115, 116, 97, 116, 101, 32, 50, 10, 114, 101, 103, 105, 115, 116, 101, 114, 32, 50, 10, 115, 121, 110, 99, 32, 49, 52, 10, 99, 104, 101, 99, 107, 111, 117, 116, 32, 50, 32, 45, 32, 48, 32, 48, 32, 51, 32, 51, 48, 10, 115, 121, 110, 99, 32, 50, 10, 100, 111, 32, 50, 32, 50, 32, 53, 32, 34, 34, 32, 116, 32, 48, 10, 115, 116, 97, 116, 101, 32, 50, 10, 115, 121, 110, 99, 32, 52, 10, 115, 116, 97, 116, 101, 32, 50, 10]⟩⟩
abbrev r10_a : Value := .string ⟨⟨[111, 107, 32, 48, 32, 48, 32, 48, 32, 48, 32, 48, 32, 48, 32, 48, 10, 111, 107, 10, 111, 107, 10, 111, 107, 10, 111, 107, 10, 111, 107, 10, 111, 107, 32, 49, 32, 49, 32, 48, 32, 49, 32, 48, 32, 51, 48, 32, 48, 10, 111, 107, 10, 111, 107, 32, 49, 32, 49, 32, 49, 32, 48, 32, 49, 32, 51, 48, 32, 48, 10]⟩⟩
set_option maxRecDepth 1000000 in
theorem r10_h : isV r10_a (cfo r10_o 7 [r10_s] w02) = true := by kernel_rfl
theorem r10_c (w : World) : Calls Tryz.prog 7 ⟨[r10_s]⟩ w fun e w' => e = .returned r10_a ∧ Below w.heap.size w w' :=
  val_of (cfo_ok (orc2_ok l0_ok (orc2_ok l1_ok (orc2_ok l2_ok (orc2_ok l6_ok (orc2_ok l7_ok o0_ok)))))) (.cons (RV.self rfl) .nil) r10_h rfl

end Go.Proofs.YtoignhfhljlnbaaGreatDoor
