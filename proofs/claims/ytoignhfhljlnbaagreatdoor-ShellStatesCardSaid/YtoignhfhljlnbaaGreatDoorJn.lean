/- strings.Join, by the kit's contract at this program's numbers. -/
import Derived.Room.Shelf.Join48
import Derived.RowKit
import Derived.Test.YtoignhfhljlnbaaGreatDoorProg
namespace Go.Proofs.YtoignhfhljlnbaaGreatDoor
open Go Go.Shelf Go.RowKit

def jren : Ren where
  f := fun n => match n with
    | 156 => 206 | 165 => 23 | 166 => 24 | 169 => 26 | 240 => 68 | 241 => 69 | 276 => 140 | 277 => 141 | n => n
  t := fun n => match n with
    | 31 => 28 | 9 => 9 | 3 => 3 | 4 => 4 | 0 => 0 | 20 => 20 | 72 => 78 | 76 => 82 | 70 => 76 | 37 => 27 | 75 => 81 | 127 => 159 | 164 => 225 | 5 => 5 | 80 => 62 | n => n
  g := fun n => n

theorem jlays : Lays.n156 Tryz.prog jren := by constructor <;> first | kernel_rfl | (intro w; kernel_rfl) | (intro a b; kernel_rfl) | (intros; rfl)
theorem jx72 : Builder.X72 Tryz.prog jren := by constructor <;> first | kernel_rfl | (intro w; kernel_rfl) | (intro a b; kernel_rfl) | (intros; rfl)
theorem jextra : Builder.Extra Tryz.prog jren := by constructor <;> first | exact jx72 | kernel_rfl | (intro w; kernel_rfl) | (intro a b; kernel_rfl) | decide

theorem join_calls (bk o c : Nat) (xs : List ByteArray) (sep : ByteArray) (w : World) (h1 : ∀ (j : Nat) x, xs[j]? = some x → w.cell? ⟨bk, o + j, none⟩ = some (.string x)) (h2 : bk < w.heap.size) (h3 : xs.length ≤ 140737488355328) (h4 : xs.length ≤ c)
    (h5 : (Lib.join (xs.map (·.data.toList)) sep.data.toList).length ≤ 281474976710656) :
    Calls Tryz.prog 206 #[.slice (some ⟨bk, o, none⟩) xs.length c, .string sep] w fun e w' => e = .returned (.string ⟨(Lib.join (xs.map (·.data.toList)) sep.data.toList).toArray⟩) ∧ Below w.heap.size w w' :=
  Any.strings_Join_48 jlays jextra bk o c xs sep w h1 h2 h3 h4 h5
end Go.Proofs.YtoignhfhljlnbaaGreatDoor
