/- The law ShellStates: scripts (1). -/
import Derived.Test.YtoignhfhljlnbaaGreatDoorY0
import Derived.Test.YtoignhfhljlnbaaGreatDoorY1
import Derived.Test.YtoignhfhljlnbaaGreatDoorY2
import Derived.Test.YtoignhfhljlnbaaGreatDoorY3
import Derived.Test.YtoignhfhljlnbaaGreatDoorY4
namespace Go.Proofs.YtoignhfhljlnbaaGreatDoor
open Go Go.Cx Go.RowKit

noncomputable def r11_o : Orc := (orc2 l0_o (orc2 l1_o (orc2 l2_o (orc2 l6_o (orc2 l8_o (orc2 l9_o o0))))))
abbrev r11_s : Value := .string ⟨⟨[115, 116, 97, 116, 101, 32, 50, 10, 114, 101, 103, 105, 115, 116, 101, 114, 32, 50, 10, 115, 121, 110, 99, 32, 49, 52, 10, 99, 104, 101, 99, 107, 111, 117, 116, 32, 50, 32, 45, 32, 48, 32, 48, 32, 51, 32, 51, 48, 10, 115, 121, 110, 99, 32, 50, 10, 100, 111, 32, 50, 32, 50, 32, 53, 32, 34, 34, 32, 116, 32, 48, 10, 115, 116, 97, 116, 101, 32, 50, 10, 108, 111, 115, 101, 32, 50, 10, 115, 121, 110, 99, 32, 51, 10, 115, 116, 97, 116, 101, 32, 50, 10]⟩⟩
abbrev r11_a : Value := .string ⟨⟨[111, 107, 32, 48, 32, 48, 32, 48, 32, 48, 32, 48, 32, 48, 32, 48, 10, 111, 107, 10, 111, 107, 10, 111, 107, 10, 111, 107, 10, 111, 107, 10, 111, 107, 32, 49, 32, 49, 32, 48, 32, 49, 32, 48, 32, 51, 48, 32, 48, 10, 111, 107, 10, 111, 107, 10, 111, 107, 32, 49, 32, 49, 32, 48, 32, 49, 32, 48, 32, 51, 48, 32, 49, 10]⟩⟩
set_option maxRecDepth 1000000 in
theorem r11_h : isV r11_a (cfo r11_o 7 [r11_s] w02) = true := by kernel_rfl
theorem r11_c (w : World) : Calls Tryz.prog 7 ⟨[r11_s]⟩ w fun e w' => e = .returned r11_a ∧ Below w.heap.size w w' :=
  val_of (cfo_ok (orc2_ok l0_ok (orc2_ok l1_ok (orc2_ok l2_ok (orc2_ok l6_ok (orc2_ok l8_ok (orc2_ok l9_ok o0_ok))))))) (.cons (RV.self rfl) .nil) r11_h rfl
noncomputable def r20_o : Orc := (orc2 l0_o (orc2 l1_o (orc2 l2_o (orc2 l6_o (orc2 l10_o (orc2 l11_o o0))))))
abbrev r20_s : Value := .string ⟨⟨[115, 116, 97, 116, 101, 32, 50, 10, 114, 101, 103, 105, 115, 116, 101, 114, 32, 50, 10, 115, 121, 110, 99, 32, 49, 52, 10, 99, 104, 101, 99, 107, 111, 117, 116, 32, 50, 32, 45, 32, 48, 32, 48, 32, 51, 32, 51, 48, 10, 115, 121, 110, 99, 32, 50, 10, 100, 111, 32, 50, 32, 50, 32, 53, 32, 34, 34, 32, 116, 32, 48, 10, 100, 111, 32, 50, 32, 50, 32, 53, 32, 34, 34, 32, 116, 32, 49, 10, 115, 116, 97, 116, 101, 32, 50, 10, 115, 121, 110, 99, 32, 52, 10, 115, 116, 97, 116, 101, 32, 50, 10]⟩⟩
abbrev r20_a : Value := .string ⟨⟨[111, 107, 32, 48, 32, 48, 32, 48, 32, 48, 32, 48, 32, 48, 32, 48, 10, 111, 107, 10, 111, 107, 10, 111, 107, 10, 111, 107, 10, 111, 107, 10, 111, 107, 10, 111, 107, 32, 49, 32, 50, 32, 48, 32, 50, 32, 48, 32, 51, 48, 32, 48, 10, 111, 107, 10, 111, 107, 32, 49, 32, 50, 32, 50, 32, 48, 32, 50, 32, 51, 48, 32, 48, 10]⟩⟩
set_option maxRecDepth 1000000 in
theorem r20_h : isV r20_a (cfo r20_o 7 [r20_s] w02) = true := by kernel_rfl
theorem r20_c (w : World) : Calls Tryz.prog 7 ⟨[r20_s]⟩ w fun e w' => e = .returned r20_a ∧ Below w.heap.size w w' :=
  val_of (cfo_ok (orc2_ok l0_ok (orc2_ok l1_ok (orc2_ok l2_ok (orc2_ok l6_ok (orc2_ok l10_ok (orc2_ok l11_ok o0_ok))))))) (.cons (RV.self rfl) .nil) r20_h rfl
noncomputable def r21_o : Orc := (orc2 l0_o (orc2 l1_o (orc2 l2_o (orc2 l6_o (orc2 l10_o (orc2 l12_o (orc2 l13_o o0)))))))
abbrev r21_s : Value := .string ⟨⟨[115, 116, 97, 116, 101, 32, 50, 10, 114, 101, 103, 105, 115, 116, 101, 114, 32, 50, 10, 115, 121, 110, 99, 32, 49, 52, 10, 99, 104, 101, 99, 107, 111, 117, 116, 32, 50, 32, 45, 32, 48, 32, 48, 32, 51, 32, 51, 48, 10, 115, 121, 110, 99, 32, 50, 10, 100, 111, 32, 50, 32, 50, 32, 53, 32, 34, 34, 32, 116, 32, 48, 10, 100, 111, 32, 50, 32, 50, 32, 53, 32, 34, 34, 32, 116, 32, 49, 10, 115, 116, 97, 116, 101, 32, 50, 10, 108, 111, 115, 101, 32, 50, 10, 115, 121, 110, 99, 32, 51, 10, 115, 116, 97, 116, 101, 32, 50, 10]⟩⟩
abbrev r21_a : Value := .string ⟨⟨[111, 107, 32, 48, 32, 48, 32, 48, 32, 48, 32, 48, 32, 48, 32, 48, 10, 111, 107, 10, 111, 107, 10, 111, 107, 10, 111, 107, 10, 111, 107, 10, 111, 107, 10, 111, 107, 32, 49, 32, 50, 32, 48, 32, 50, 32, 48, 32, 51, 48, 32, 48, 10, 111, 107, 10, 111, 107, 10, 111, 107, 32, 49, 32, 50, 32, 48, 32, 50, 32, 48, 32, 51, 48, 32, 49, 10]⟩⟩
set_option maxRecDepth 1000000 in
theorem r21_h : isV r21_a (cfo r21_o 7 [r21_s] w02) = true := by kernel_rfl
theorem r21_c (w : World) : Calls Tryz.prog 7 ⟨[r21_s]⟩ w fun e w' => e = .returned r21_a ∧ Below w.heap.size w w' :=
  val_of (cfo_ok (orc2_ok l0_ok (orc2_ok l1_ok (orc2_ok l2_ok (orc2_ok l6_ok (orc2_ok l10_ok (orc2_ok l12_ok (orc2_ok l13_ok o0_ok)))))))) (.cons (RV.self rfl) .nil) r21_h rfl

end Go.Proofs.YtoignhfhljlnbaaGreatDoor
