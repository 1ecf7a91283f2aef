/- The law AuditEven: for every input the call returns true, and each argument reads behind it as before. -/
import Derived.Test.YtcocconldmhlnaaGreatXs
import Derived.Test.YtcocconldmhlnaaGreatY0
import Derived.Test.YtcocconldmhlnaaGreatY1a
import Derived.Test.YtcocconldmhlnaaGreatY1b
import Derived.Test.YtcocconldmhlnaaGreatY1c
import Derived.Test.YtcocconldmhlnaaGreatY2a
import Derived.Test.YtcocconldmhlnaaGreatY2b
import Derived.Test.YtcocconldmhlnaaGreatY2c
import Derived.Test.YtcocconldmhlnaaGreatY3a
import Derived.Test.YtcocconldmhlnaaGreatY3b
import Derived.Test.YtcocconldmhlnaaGreatY3c
import Derived.Test.YtcocconldmhlnaaGreatY4a
import Derived.Test.YtcocconldmhlnaaGreatY4b
import Derived.Test.YtcocconldmhlnaaGreatY4c
import Derived.Test.YtcocconldmhlnaaGreatY5a
import Derived.Test.YtcocconldmhlnaaGreatY5b
import Derived.Test.YtcocconldmhlnaaGreatY5c
import Derived.Test.YtcocconldmhlnaaGreatY6a
import Derived.Test.YtcocconldmhlnaaGreatY6b
import Derived.Test.YtcocconldmhlnaaGreatY6c
import Derived.Test.YtcocconldmhlnaaGreatY7a
import Derived.Test.YtcocconldmhlnaaGreatY7b
import Derived.Test.YtcocconldmhlnaaGreatY7c
namespace Go.Proofs.YtcocconldmhlnaaGreat
open Go Go.Cx Go.ChangeShapes Go.WideShapes Go.ChangeAt Go.RowKit

theorem Try.own : ownKnob Tryz.prog.godebug = none := by kernel_rfl
theorem Try.laidOut : laidOutB Tryz.prog = true := by kernel_rfl

theorem even_calls (n who : Int) (w : World) : Calls Tryz.prog 4 #[.int .i64 n, .int .i64 who] w fun e w' => e = .returned (.bool true) ∧ Below w.heap.size w w' := by
  obtain ⟨k, hk⟩ : ∃ k : Nat, n % 8 = k := ⟨(n % 8).toNat, by omega⟩
  obtain ⟨j, hj⟩ : ∃ j : Nat, who % 3 = j := ⟨(who % 3).toNat, by omega⟩
  have hlt : k < 8 := by omega
  have hlj : j < 3 := by omega
  refine head hk hj ?_
  match k, j, hlt, hlj with
  | 0, _, _, _ => exact leaf0
  | 1, 0, _, _ => exact leaf1a
  | 1, 1, _, _ => exact leaf1b
  | 1, 2, _, _ => exact leaf1c
  | 2, 0, _, _ => exact leaf2a
  | 2, 1, _, _ => exact leaf2b
  | 2, 2, _, _ => exact leaf2c
  | 3, 0, _, _ => exact leaf3a
  | 3, 1, _, _ => exact leaf3b
  | 3, 2, _, _ => exact leaf3c
  | 4, 0, _, _ => exact leaf4a
  | 4, 1, _, _ => exact leaf4b
  | 4, 2, _, _ => exact leaf4c
  | 5, 0, _, _ => exact leaf5a
  | 5, 1, _, _ => exact leaf5b
  | 5, 2, _, _ => exact leaf5c
  | 6, 0, _, _ => exact leaf6a
  | 6, 1, _, _ => exact leaf6b
  | 6, 2, _, _ => exact leaf6c
  | 7, 0, _, _ => exact leaf7a
  | 7, 1, _, _ => exact leaf7b
  | 7, 2, _, _ => exact leaf7c
  | k + 8, _, h, _ => exact absurd h (by omega)
  | 1, j + 3, _, h => exact absurd h (by omega)
  | 2, j + 3, _, h => exact absurd h (by omega)
  | 3, j + 3, _, h => exact absurd h (by omega)
  | 4, j + 3, _, h => exact absurd h (by omega)
  | 5, j + 3, _, h => exact absurd h (by omega)
  | 6, j + 3, _, h => exact absurd h (by omega)
  | 7, j + 3, _, h => exact absurd h (by omega)

set_option maxRecDepth 100000 in
theorem law_lifted (os : Os) (started : os.Started) (H : Type) (enc : TypeId × Value → H) :
    ReturnsInHanded {} Tryz.checked os 4 .any (Rows.auditEvenSpec.pre6 enc Tryz.prog Tryz.f4 Rows.auditEvenRow.domain false) (Rows.auditEvenSpec.post enc Tryz.prog Tryz.f4 false true false false) := by
  refine returnsInHanded_of_change (C := Tryz.checked) Try.own started (by kernel_rfl) Tryz.func4
    (ChangeSpec.witness6 (enc := enc) (C := Tryz.checked) false ⟨#[], #[.int .i64 0, .int .i64 0], []⟩ 8 (by kernel_rfl) (by kernel_rfl) (by kernel_rfl) (by kernel_rfl)) ?_
  intro W base args ds gs before hval hW _ _
  have hA := hW
  obtain ⟨p, q, hA, _⟩ := hA
  have hp : Tryz.f4.params.toList = [3, 3] := by rw [Tryz.params4]
  have hv : ∀ (j : Nat) t v, [3, 3][j]? = some t → args[j]? = some v → Value.okWide Tryz.prog W .any base t v := fun j t v hj hv => hval j t v (by rw [← hp] at hj; simpa using hj) hv
  rw [hp] at hA
  obtain ⟨v0, v1, d0, d1, p0, p1, rfl, rfl, rfl, h0, h1⟩ := trodAll_two hA
  obtain ⟨x, rfl, _⟩ := open_int Tryz.underlying3 (hv 0 3 v0 rfl rfl) h0
  obtain ⟨y, rfl, _⟩ := open_int Tryz.underlying3 (hv 1 3 v1 rfl rfl) h1
  refine (even_calls x y W).mono ?_
  rintro e W' ⟨rfl, hb⟩
  exact ⟨_, rfl, law_post Try.laidOut (by rw [hp]; decide +kernel) rfl (by kernel_rfl) Tryz.underlying4 (fun ds hd => by rw [show Tryz.f4.params.size = 2 from by rw [← Array.length_toList, hp]; rfl] at hd; match ds, hd with | [a, b], _ => rfl) hW hb⟩

theorem cl1 : (Rows.auditEvenRow.inPlace == Tryz.pinned.checked.prog.inPlace 4) = true := by kernel_rfl
theorem cl2 : (Rows.auditEvenRow.unfollowed == Tryz.pinned.checked.prog.unfollowed 4) = true := by kernel_rfl
theorem cl3 : (Rows.auditEvenRow.recurses == Tryz.pinned.checked.prog.recurses 4) = true := by kernel_rfl
theorem cl4 : (Rows.auditEvenRow.named == Tryz.pinned.checked.prog.varsNamed 4) = true := by kernel_rfl
theorem law_closed : joinedFacts Tryz.pinned.checked.prog 4 Tryz.f4 Rows.auditEvenSpec Rows.auditEvenRow = true := by
  unfold joinedFacts
  rw [cl1, cl2, cl3, cl4]
  kernel_rfl

theorem law_holds : Rows.AuditEvenSaid :=
  OpenClaim.holds_of_wide 4 Tryz.f4 rfl rfl rfl rfl rfl rfl rfl ⟨rfl, rfl, rfl, rfl, rfl⟩ rfl rfl rfl rfl rfl (by kernel_rfl) Tryz.func4 law_closed
    (of_decide_eq_true (by kernel_rfl)) (by unfold Func.isWrapper; first | (rw [if_pos (by decide +kernel)]; kernel_rfl) | (rw [if_neg (by decide +kernel)]; exact ⟨rfl, rfl⟩))
    (fun os started H enc _ => law_lifted os started H enc)

end Go.Proofs.YtcocconldmhlnaaGreat
