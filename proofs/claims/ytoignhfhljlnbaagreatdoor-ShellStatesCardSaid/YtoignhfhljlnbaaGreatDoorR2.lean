/- The law ShellStates: scripts (2). -/
import Derived.Test.YtoignhfhljlnbaaGreatDoorY0
import Derived.Test.YtoignhfhljlnbaaGreatDoorY1
import Derived.Test.YtoignhfhljlnbaaGreatDoorY2
import Derived.Test.YtoignhfhljlnbaaGreatDoorY4
import Derived.Test.YtoignhfhljlnbaaGreatDoorY5
import Derived.Test.YtoignhfhljlnbaaGreatDoorY6
import Derived.Test.YtoignhfhljlnbaaGreatDoorY7
namespace Go.Proofs.YtoignhfhljlnbaaGreatDoor
open Go Go.Cx Go.RowKit

noncomputable def r30_o : Orc := (orc2 l0_o (orc2 l1_o (orc2 l2_o (orc2 l6_o (orc2 l10_o (orc2 l14_o (orc2 l15_o o0)))))))
abbrev r30_s : Value := .string ⟨⟨[115, 116, 97, 116, 101, 32, 50, 10, 114, 101, 103, 105, 115, 116, 101, 114, 32, 50, 10, 115, 121, 110, 99, 32, 49, 52, 10, 99, 104, 101, 99, 107, 111, 117, 116, 32, 50, 32, 45, 32, 48, 32, 48, 32, 51, 32, 51, 48, 10, 115, 121, 110, 99, 32, 50, 10, 100, 111, 32, 50, 32, 50, 32, 53, 32, 34, 34, 32, 116, 32, 48, 10, 100, 111, 32, 50, 32, 50, 32, 53, 32, 34, 34, 32, 116, 32, 49, 10, 100, 111, 32, 50, 32, 50, 32, 53, 32, 34, 34, 32, 116, 32, 50, 10, 115, 116, 97, 116, 101, 32, 50, 10, 115, 121, 110, 99, 32, 52, 10, 115, 116, 97, 116, 101, 32, 50, 10]⟩⟩
abbrev r30_a : Value := .string ⟨⟨[111, 107, 32, 48, 32, 48, 32, 48, 32, 48, 32, 48, 32, 48, 32, 48, 10, 111, 107, 10, 111, 107, 10, 111, 107, 10, 111, 107, 10, 111, 107, 10, 111, 107, 10, 111, 107, 10, 111, 107, 32, 49, 32, 51, 32, 48, 32, 51, 32, 48, 32, 51, 48, 32, 48, 10, 111, 107, 10, 111, 107, 32, 49, 32, 51, 32, 51, 32, 48, 32, 51, 32, 51, 48, 32, 48, 10]⟩⟩
set_option maxRecDepth 1000000 in
theorem r30_h : isV r30_a (cfo r30_o 7 [r30_s] w02) = true := by kernel_rfl
theorem r30_c (w : World) : Calls Tryz.prog 7 ⟨[r30_s]⟩ w fun e w' => e = .returned r30_a ∧ Below w.heap.size w w' :=
  val_of (cfo_ok (orc2_ok l0_ok (orc2_ok l1_ok (orc2_ok l2_ok (orc2_ok l6_ok (orc2_ok l10_ok (orc2_ok l14_ok (orc2_ok l15_ok o0_ok)))))))) (.cons (RV.self rfl) .nil) r30_h rfl
noncomputable def r31_o : Orc := (orc2 l0_o (orc2 l1_o (orc2 l2_o (orc2 l6_o (orc2 l10_o (orc2 l14_o (orc2 l16_o (orc2 l17_o o0))))))))
abbrev r31_s : Value := .string ⟨⟨[115, 116, 97, 116, 101, 32, 50, 10, 114, 101, 103, 105, 115, 116, 101, 114, 32, 50, 10, 115, 121, 110, 99, 32, 49, 52, 10, 99, 104, 101, 99, 107, 111, 117, 116, 32, 50, 32, 45, 32, 48, 32, 48, 32, 51, 32, 51, 48, 10, 115, 121, 110, 99, 32, 50, 10, 100, 111, 32, 50, 32, 50, 32, 53, 32, 34, 34, 32, 116, 32, 48, 10, 100, 111, 32, 50, 32, 50, 32, 53, 32, 34, 34, 32, 116, 32, 49, 10, 100, 111, 32, 50, 32, 50, 32, 53, 32, 34, 34, 32, 116, 32, 50, 10, 115, 116, 97, 116, 101, 32, 50, 10, 108, 111, 115, 101, 32, 50, 10, 115, 121, 110, 99, 32, 51, 10, 115, 116, 97, 116, 101, 32, 50, 10]⟩⟩
abbrev r31_a : Value := .string ⟨⟨[111, 107, 32, 48, 32, 48, 32, 48, 32, 48, 32, 48, 32, 48, 32, 48, 10, 111, 107, 10, 111, 107, 10, 111, 107, 10, 111, 107, 10, 111, 107, 10, 111, 107, 10, 111, 107, 10, 111, 107, 32, 49, 32, 51, 32, 48, 32, 51, 32, 48, 32, 51, 48, 32, 48, 10, 111, 107, 10, 111, 107, 10, 111, 107, 32, 49, 32, 51, 32, 48, 32, 51, 32, 48, 32, 51, 48, 32, 49, 10]⟩⟩
set_option maxRecDepth 1000000 in
theorem r31_h : isV r31_a (cfo r31_o 7 [r31_s] w02) = true := by kernel_rfl
theorem r31_c (w : World) : Calls Tryz.prog 7 ⟨[r31_s]⟩ w fun e w' => e = .returned r31_a ∧ Below w.heap.size w w' :=
  val_of (cfo_ok (orc2_ok l0_ok (orc2_ok l1_ok (orc2_ok l2_ok (orc2_ok l6_ok (orc2_ok l10_ok (orc2_ok l14_ok (orc2_ok l16_ok (orc2_ok l17_ok o0_ok))))))))) (.cons (RV.self rfl) .nil) r31_h rfl
noncomputable def r40_o : Orc := (orc2 l0_o (orc2 l1_o (orc2 l2_o (orc2 l6_o (orc2 l10_o (orc2 l14_o (orc2 l18_o (orc2 l19_o o0))))))))
abbrev r40_s : Value := .string ⟨⟨[115, 116, 97, 116, 101, 32, 50, 10, 114, 101, 103, 105, 115, 116, 101, 114, 32, 50, 10, 115, 121, 110, 99, 32, 49, 52, 10, 99, 104, 101, 99, 107, 111, 117, 116, 32, 50, 32, 45, 32, 48, 32, 48, 32, 51, 32, 51, 48, 10, 115, 121, 110, 99, 32, 50, 10, 100, 111, 32, 50, 32, 50, 32, 53, 32, 34, 34, 32, 116, 32, 48, 10, 100, 111, 32, 50, 32, 50, 32, 53, 32, 34, 34, 32, 116, 32, 49, 10, 100, 111, 32, 50, 32, 50, 32, 53, 32, 34, 34, 32, 116, 32, 50, 10, 100, 111, 32, 50, 32, 50, 32, 53, 32, 34, 34, 32, 116, 32, 51, 10, 115, 116, 97, 116, 101, 32, 50, 10, 115, 121, 110, 99, 32, 52, 10, 115, 116, 97, 116, 101, 32, 50, 10]⟩⟩
abbrev r40_a : Value := .string ⟨⟨[111, 107, 32, 48, 32, 48, 32, 48, 32, 48, 32, 48, 32, 48, 32, 48, 10, 111, 107, 10, 111, 107, 10, 111, 107, 10, 111, 107, 10, 111, 107, 10, 111, 107, 10, 111, 107, 10, 114, 105, 103, 104, 116, 115, 10, 111, 107, 32, 49, 32, 51, 32, 48, 32, 51, 32, 48, 32, 51, 48, 32, 48, 10, 111, 107, 10, 111, 107, 32, 49, 32, 51, 32, 51, 32, 48, 32, 51, 32, 51, 48, 32, 48, 10]⟩⟩
set_option maxRecDepth 1000000 in
theorem r40_h : isV r40_a (cfo r40_o 7 [r40_s] w02) = true := by kernel_rfl
theorem r40_c (w : World) : Calls Tryz.prog 7 ⟨[r40_s]⟩ w fun e w' => e = .returned r40_a ∧ Below w.heap.size w w' :=
  val_of (cfo_ok (orc2_ok l0_ok (orc2_ok l1_ok (orc2_ok l2_ok (orc2_ok l6_ok (orc2_ok l10_ok (orc2_ok l14_ok (orc2_ok l18_ok (orc2_ok l19_ok o0_ok))))))))) (.cons (RV.self rfl) .nil) r40_h rfl

end Go.Proofs.YtoignhfhljlnbaaGreatDoor
