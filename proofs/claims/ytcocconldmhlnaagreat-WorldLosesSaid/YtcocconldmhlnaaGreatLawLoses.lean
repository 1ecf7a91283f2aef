/- The law WorldLoses: for every input the call returns true, and each argument reads behind it as before. -/
import Derived.Test.YtcocconldmhlnaaGreatV0f
import Derived.Test.YtcocconldmhlnaaGreatV0t
import Derived.Test.YtcocconldmhlnaaGreatV1f
import Derived.Test.YtcocconldmhlnaaGreatV1t
import Derived.Test.YtcocconldmhlnaaGreatV2f
import Derived.Test.YtcocconldmhlnaaGreatV2t
import Derived.Test.YtcocconldmhlnaaGreatV3f
import Derived.Test.YtcocconldmhlnaaGreatV3t
import Derived.Test.YtcocconldmhlnaaGreatV4f
import Derived.Test.YtcocconldmhlnaaGreatV4t
import Derived.Test.YtcocconldmhlnaaGreatV5f
import Derived.Test.YtcocconldmhlnaaGreatV5t
namespace Go.Proofs.YtcocconldmhlnaaGreat
open Go Go.Cx Go.ChangeShapes Go.WideShapes Go.ChangeAt Go.RowKit

theorem Try.own : ownKnob Tryz.prog.godebug = none := by kernel_rfl
theorem Try.laidOut : laidOutB Tryz.prog = true := by kernel_rfl

theorem loses_calls (ops : Int) (b : Bool) (w : World) : Calls Tryz.prog 3 #[.int .i64 ops, .bool b] w fun e w' => e = .returned (.bool true) ∧ Below w.heap.size w w' := by
  obtain ⟨k, hk⟩ : ∃ k : Nat, ops % 6 = k := ⟨(ops % 6).toNat, by omega⟩
  have hlt : k < 6 := by omega
  match k, b, hk, hlt with
  | 0, false, hk, _ => exact calls0f hk
  | 0, true, hk, _ => exact calls0t hk
  | 1, false, hk, _ => exact calls1f hk
  | 1, true, hk, _ => exact calls1t hk
  | 2, false, hk, _ => exact calls2f hk
  | 2, true, hk, _ => exact calls2t hk
  | 3, false, hk, _ => exact calls3f hk
  | 3, true, hk, _ => exact calls3t hk
  | 4, false, hk, _ => exact calls4f hk
  | 4, true, hk, _ => exact calls4t hk
  | 5, false, hk, _ => exact calls5f hk
  | 5, true, hk, _ => exact calls5t hk
  | k + 6, _, _, h => exact absurd h (by omega)

set_option maxRecDepth 100000 in
theorem law_lifted (os : Os) (started : os.Started) (H : Type) (enc : TypeId × Value → H) :
    ReturnsInHanded {} Tryz.checked os 3 .any (Rows.worldLosesSpec.pre6 enc Tryz.prog Tryz.f3 Rows.worldLosesRow.domain false) (Rows.worldLosesSpec.post enc Tryz.prog Tryz.f3 false true false false) := by
  refine returnsInHanded_of_change (C := Tryz.checked) Try.own started (by kernel_rfl) Tryz.func3
    (ChangeSpec.witness6 (enc := enc) (C := Tryz.checked) false ⟨#[], #[.int .i64 0, .bool false], []⟩ 8 (by kernel_rfl) (by kernel_rfl) (by kernel_rfl) (by kernel_rfl)) ?_
  intro W base args ds gs before hval hW _ _
  have hA := hW
  obtain ⟨p, q, hA, _⟩ := hA
  have hp : Tryz.f3.params.toList = [3, 4] := by rw [Tryz.params3]
  have hv : ∀ (j : Nat) t v, [3, 4][j]? = some t → args[j]? = some v → Value.okWide Tryz.prog W .any base t v := fun j t v hj hv => hval j t v (by rw [← hp] at hj; simpa using hj) hv
  rw [hp] at hA
  obtain ⟨v0, v1, d0, d1, p0, p1, rfl, rfl, rfl, h0, h1⟩ := trodAll_two hA
  obtain ⟨x, rfl, _⟩ := open_int Tryz.underlying3 (hv 0 3 v0 rfl rfl) h0
  obtain ⟨y, rfl, _⟩ := open_bool Tryz.underlying4 (hv 1 4 v1 rfl rfl) h1
  refine (loses_calls x y W).mono ?_
  rintro e W' ⟨rfl, hb⟩
  exact ⟨_, rfl, law_post Try.laidOut (by rw [hp]; decide +kernel) rfl (by kernel_rfl) Tryz.underlying4 (fun ds hd => by rw [show Tryz.f3.params.size = 2 from by rw [← Array.length_toList, hp]; rfl] at hd; match ds, hd with | [a, b], _ => rfl) hW hb⟩

theorem cl1 : (Rows.worldLosesRow.inPlace == Tryz.pinned.checked.prog.inPlace 3) = true := by kernel_rfl
theorem cl2 : (Rows.worldLosesRow.unfollowed == Tryz.pinned.checked.prog.unfollowed 3) = true := by kernel_rfl
theorem cl3 : (Rows.worldLosesRow.recurses == Tryz.pinned.checked.prog.recurses 3) = true := by kernel_rfl
theorem cl4 : (Rows.worldLosesRow.named == Tryz.pinned.checked.prog.varsNamed 3) = true := by kernel_rfl
theorem law_closed : joinedFacts Tryz.pinned.checked.prog 3 Tryz.f3 Rows.worldLosesSpec Rows.worldLosesRow = true := by
  unfold joinedFacts
  rw [cl1, cl2, cl3, cl4]
  kernel_rfl

theorem law_holds : Rows.WorldLosesSaid :=
  OpenClaim.holds_of_wide 3 Tryz.f3 rfl rfl rfl rfl rfl rfl rfl ⟨rfl, rfl, rfl, rfl, rfl⟩ rfl rfl rfl rfl rfl (by kernel_rfl) Tryz.func3 law_closed
    (of_decide_eq_true (by kernel_rfl)) (by unfold Func.isWrapper; first | (rw [if_pos (by decide +kernel)]; kernel_rfl) | (rw [if_neg (by decide +kernel)]; exact ⟨rfl, rfl⟩))
    (fun os started H enc _ => law_lifted os started H enc)

end Go.Proofs.YtcocconldmhlnaaGreat
