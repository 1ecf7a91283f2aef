/- The law ShellStates: scripts (3). -/
import Derived.Test.YtoignhfhljlnbaaGreatDoorY0
import Derived.Test.YtoignhfhljlnbaaGreatDoorY1
import Derived.Test.YtoignhfhljlnbaaGreatDoorY10
import Derived.Test.YtoignhfhljlnbaaGreatDoorY2
import Derived.Test.YtoignhfhljlnbaaGreatDoorY4
import Derived.Test.YtoignhfhljlnbaaGreatDoorY6
import Derived.Test.YtoignhfhljlnbaaGreatDoorY7
import Derived.Test.YtoignhfhljlnbaaGreatDoorY8
import Derived.Test.YtoignhfhljlnbaaGreatDoorY9
namespace Go.Proofs.YtoignhfhljlnbaaGreatDoor
open Go Go.Cx Go.RowKit

noncomputable def r41_o : Orc := (orc2 l0_o (orc2 l1_o (orc2 l2_o (orc2 l6_o (orc2 l10_o (orc2 l14_o (orc2 l18_o (orc2 l20_o (orc2 l21_o o0)))))))))
abbrev r41_s : Value := .string ⟨⟨[115, 116, 97, 116, 101, 32, 50, 10, 114, 101, 103, 105, 115, 116, 101, 114, 32, 50, 10, 115, 121, 110, 99, 32, 49, 52, 10, 99, 104, 101, 99, 107, 111, 117, 116, 32, 50, 32, 45, 32, 48, 32, 48, 32, 51, 32, 51, 48, 10, 115, 121, 110, 99, 32, 50, 10, 100, 111, 32, 50, 32, 50, 32, 53, 32, 34, 34, 32, 116, 32, 48, 10, 100, 111, 32, 50, 32, 50, 32, 53, 32, 34, 34, 32, 116, 32, 49, 10, 100, 111, 32, 50, 32, 50, 32, 53, 32, 34, 34, 32, 116, 32, 50, 10, 100, 111, 32, 50, 32, 50, 32, 53, 32, 34, 34, 32, 116, 32, 51, 10, 115, 116, 97, 116, 101, 32, 50, 10, 108, 111, 115, 101, 32, 50, 10, 115, 121, 110, 99, 32, 51, 10, 115, 116, 97, 116, 101, 32, 50, 10]⟩⟩
abbrev r41_a : Value := .string ⟨⟨[111, 107, 32, 48, 32, 48, 32, 48, 32, 48, 32, 48, 32, 48, 32, 48, 10, 111, 107, 10, 111, 107, 10, 111, 107, 10, 111, 107, 10, 111, 107, 10, 111, 107, 10, 111, 107, 10, 114, 105, 103, 104, 116, 115, 10, 111, 107, 32, 49, 32, 51, 32, 48, 32, 51, 32, 48, 32, 51, 48, 32, 48, 10, 111, 107, 10, 111, 107, 10, 111, 107, 32, 49, 32, 51, 32, 48, 32, 51, 32, 48, 32, 51, 48, 32, 49, 10]⟩⟩
set_option maxRecDepth 1000000 in
theorem r41_h : isV r41_a (cfo r41_o 7 [r41_s] w02) = true := by kernel_rfl
theorem r41_c (w : World) : Calls Tryz.prog 7 ⟨[r41_s]⟩ w fun e w' => e = .returned r41_a ∧ Below w.heap.size w w' :=
  val_of (cfo_ok (orc2_ok l0_ok (orc2_ok l1_ok (orc2_ok l2_ok (orc2_ok l6_ok (orc2_ok l10_ok (orc2_ok l14_ok (orc2_ok l18_ok (orc2_ok l20_ok (orc2_ok l21_ok o0_ok)))))))))) (.cons (RV.self rfl) .nil) r41_h rfl
noncomputable def r50_o : Orc := (orc2 l0_o (orc2 l1_o (orc2 l2_o (orc2 l6_o (orc2 l10_o (orc2 l14_o (orc2 l18_o (orc2 l22_o (orc2 l23_o o0)))))))))
abbrev r50_s : Value := .string ⟨⟨[115, 116, 97, 116, 101, 32, 50, 10, 114, 101, 103, 105, 115, 116, 101, 114, 32, 50, 10, 115, 121, 110, 99, 32, 49, 52, 10, 99, 104, 101, 99, 107, 111, 117, 116, 32, 50, 32, 45, 32, 48, 32, 48, 32, 51, 32, 51, 48, 10, 115, 121, 110, 99, 32, 50, 10, 100, 111, 32, 50, 32, 50, 32, 53, 32, 34, 34, 32, 116, 32, 48, 10, 100, 111, 32, 50, 32, 50, 32, 53, 32, 34, 34, 32, 116, 32, 49, 10, 100, 111, 32, 50, 32, 50, 32, 53, 32, 34, 34, 32, 116, 32, 50, 10, 100, 111, 32, 50, 32, 50, 32, 53, 32, 34, 34, 32, 116, 32, 51, 10, 100, 111, 32, 50, 32, 50, 32, 53, 32, 34, 34, 32, 116, 32, 52, 10, 115, 116, 97, 116, 101, 32, 50, 10, 115, 121, 110, 99, 32, 52, 10, 115, 116, 97, 116, 101, 32, 50, 10]⟩⟩
abbrev r50_a : Value := .string ⟨⟨[111, 107, 32, 48, 32, 48, 32, 48, 32, 48, 32, 48, 32, 48, 32, 48, 10, 111, 107, 10, 111, 107, 10, 111, 107, 10, 111, 107, 10, 111, 107, 10, 111, 107, 10, 111, 107, 10, 114, 105, 103, 104, 116, 115, 10, 114, 105, 103, 104, 116, 115, 10, 111, 107, 32, 49, 32, 51, 32, 48, 32, 51, 32, 48, 32, 51, 48, 32, 48, 10, 111, 107, 10, 111, 107, 32, 49, 32, 51, 32, 51, 32, 48, 32, 51, 32, 51, 48, 32, 48, 10]⟩⟩
set_option maxRecDepth 1000000 in
theorem r50_h : isV r50_a (cfo r50_o 7 [r50_s] w02) = true := by kernel_rfl
theorem r50_c (w : World) : Calls Tryz.prog 7 ⟨[r50_s]⟩ w fun e w' => e = .returned r50_a ∧ Below w.heap.size w w' :=
  val_of (cfo_ok (orc2_ok l0_ok (orc2_ok l1_ok (orc2_ok l2_ok (orc2_ok l6_ok (orc2_ok l10_ok (orc2_ok l14_ok (orc2_ok l18_ok (orc2_ok l22_ok (orc2_ok l23_ok o0_ok)))))))))) (.cons (RV.self rfl) .nil) r50_h rfl
noncomputable def r51_o : Orc := (orc2 l0_o (orc2 l1_o (orc2 l2_o (orc2 l6_o (orc2 l10_o (orc2 l14_o (orc2 l18_o (orc2 l22_o (orc2 l24_o (orc2 l25_o o0))))))))))
abbrev r51_s : Value := .string ⟨⟨[115, 116, 97, 116, 101, 32, 50, 10, 114, 101, 103, 105, 115, 116, 101, 114, 32, 50, 10, 115, 121, 110, 99, 32, 49, 52, 10, 99, 104, 101, 99, 107, 111, 117, 116, 32, 50, 32, 45, 32, 48, 32, 48, 32, 51, 32, 51, 48, 10, 115, 121, 110, 99, 32, 50, 10, 100, 111, 32, 50, 32, 50, 32, 53, 32, 34, 34, 32, 116, 32, 48, 10, 100, 111, 32, 50, 32, 50, 32, 53, 32, 34, 34, 32, 116, 32, 49, 10, 100, 111, 32, 50, 32, 50, 32, 53, 32, 34, 34, 32, 116, 32, 50, 10, 100, 111, 32, 50, 32, 50, 32, 53, 32, 34, 34, 32, 116, 32, 51, 10, 100, 111, 32, 50, 32, 50, 32, 53, 32, 34, 34, 32, 116, 32, 52, 10, 115, 116, 97, 116, 101, 32, 50, 10, 108, 111, 115, 101, 32, 50, 10, 115, 121, 110, 99, 32, 51, 10, 115, 116, 97, 116, 101, 32, 50, 10]⟩⟩
abbrev r51_a : Value := .string ⟨⟨[111, 107, 32, 48, 32, 48, 32, 48, 32, 48, 32, 48, 32, 48, 32, 48, 10, 111, 107, 10, 111, 107, 10, 111, 107, 10, 111, 107, 10, 111, 107, 10, 111, 107, 10, 111, 107, 10, 114, 105, 103, 104, 116, 115, 10, 114, 105, 103, 104, 116, 115, 10, 111, 107, 32, 49, 32, 51, 32, 48, 32, 51, 32, 48, 32, 51, 48, 32, 48, 10, 111, 107, 10, 111, 107, 10, 111, 107, 32, 49, 32, 51, 32, 48, 32, 51, 32, 48, 32, 51, 48, 32, 49, 10]⟩⟩
set_option maxRecDepth 1000000 in
theorem r51_h : isV r51_a (cfo r51_o 7 [r51_s] w02) = true := by kernel_rfl
theorem r51_c (w : World) : Calls Tryz.prog 7 ⟨[r51_s]⟩ w fun e w' => e = .returned r51_a ∧ Below w.heap.size w w' :=
  val_of (cfo_ok (orc2_ok l0_ok (orc2_ok l1_ok (orc2_ok l2_ok (orc2_ok l6_ok (orc2_ok l10_ok (orc2_ok l14_ok (orc2_ok l18_ok (orc2_ok l22_ok (orc2_ok l24_ok (orc2_ok l25_ok o0_ok))))))))))) (.cons (RV.self rfl) .nil) r51_h rfl

end Go.Proofs.YtoignhfhljlnbaaGreatDoor
