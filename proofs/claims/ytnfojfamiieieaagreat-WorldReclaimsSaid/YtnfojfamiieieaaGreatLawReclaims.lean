/- The law WorldReclaims: for every input the call returns true, and each argument reads behind it as before. -/
import Derived.Test.YtnfojfamiieieaaGreatXl
import Derived.Test.YtnfojfamiieieaaGreatC1
import Derived.Test.YtnfojfamiieieaaGreatC4
import Derived.Test.YtnfojfamiieieaaGreatC7
import Derived.Test.YtnfojfamiieieaaGreatC10
import Derived.Test.YtnfojfamiieieaaGreatC13
import Derived.Test.YtnfojfamiieieaaGreatC16
import Derived.Test.YtnfojfamiieieaaGreatC19
import Derived.Test.YtnfojfamiieieaaGreatC22
import Derived.Test.YtnfojfamiieieaaGreatC25
import Derived.Test.YtnfojfamiieieaaGreatC28
namespace Go.Proofs.YtnfojfamiieieaaGreat
open Go Go.Cx Go.ChangeShapes Go.WideShapes Go.ChangeAt Go.RowKit

theorem Try.own : ownKnob Tryz.prog.godebug = none := by kernel_rfl
theorem Try.laidOut : laidOutB Tryz.prog = true := by kernel_rfl

theorem reclaims_calls (ticks wait : Int) (down : Bool) (w : World) : Calls Tryz.prog 3 #[.int .i64 ticks, .int .i64 wait, .bool down] w fun e w' => e = .returned (.bool true) ∧ Below w.heap.size w w' := by
  obtain ⟨t, ht⟩ : ∃ t : Nat, 1 + ticks % 30 = t := ⟨(1 + ticks % 30).toNat, by omega⟩
  obtain ⟨v, hv⟩ : ∃ v : Nat, wait % 45 = v := ⟨(wait % 45).toNat, by omega⟩
  have h1 : 1 ≤ t := by omega
  have h2 : t ≤ 30 := by omega
  have h3 : v < 45 := by omega
  have h8 : End ticks wait down t v w 8 S := by
    match v, h3 with
    | 0, _ => exact leaf0 h1 h2
    | 1, _ => exact leaf1 h1 h2
    | 2, _ => exact leaf2 h1 h2
    | 3, _ => exact leaf3 h1 h2
    | 4, _ => exact leaf4 h1 h2
    | 5, _ => exact leaf5 h1 h2
    | 6, _ => exact leaf6 h1 h2
    | 7, _ => exact leaf7 h1 h2
    | 8, _ => exact leaf8 h1 h2
    | 9, _ => exact leaf9 h1 h2
    | 10, _ => exact leaf10 h1 h2
    | 11, _ => exact leaf11 h1 h2
    | 12, _ => exact leaf12 h1 h2
    | 13, _ => exact leaf13 h1 h2
    | 14, _ => exact leaf14 h1 h2
    | 15, _ => exact leaf15 h1 h2
    | 16, _ => exact leaf16 h1 h2
    | 17, _ => exact leaf17 h1 h2
    | 18, _ => exact leaf18 h1 h2
    | 19, _ => exact leaf19 h1 h2
    | 20, _ => exact leaf20 h1 h2
    | 21, _ => exact leaf21 h1 h2
    | 22, _ => exact leaf22 h1 h2
    | 23, _ => exact leaf23 h1 h2
    | 24, _ => exact leaf24 h1 h2
    | 25, _ => exact leaf25 h1 h2
    | 26, _ => exact leaf26 h1 h2
    | 27, _ => exact leaf27 h1 h2
    | 28, _ => exact leaf28 h1 h2
    | 29, _ => exact leaf29 h1 h2
    | 30, _ => exact leaf30 h1 h2
    | 31, _ => exact leaf31 h1 h2
    | 32, _ => exact leaf32 h1 h2
    | 33, _ => exact leaf33 h1 h2
    | 34, _ => exact leaf34 h1 h2
    | 35, _ => exact leaf35 h1 h2
    | 36, _ => exact leaf36 h1 h2
    | 37, _ => exact leaf37 h1 h2
    | 38, _ => exact leaf38 h1 h2
    | 39, _ => exact leaf39 h1 h2
    | 40, _ => exact leaf40 h1 h2
    | 41, _ => exact leaf41 h1 h2
    | 42, _ => exact leaf42 h1 h2
    | 43, _ => exact leaf43 h1 h2
    | 44, _ => exact leaf44 h1 h2
    | v + 45, h => exact absurd h (by omega)
  refine start_calls (t := t) (v := v) (x := A) ready_ok A_h ?_
  clear h3
  obtain ⟨i, rfl⟩ : ∃ i : Nat, t = i + 1 := ⟨t - 1, by omega⟩
  match i, h2, ht, h8 with
  | 0, _, ht, h8 => exact way1 ht hv h8
  | 1, _, ht, h8 => exact way2 ht hv h8
  | 2, _, ht, h8 => exact way3 ht hv h8
  | 3, _, ht, h8 => exact way4 ht hv h8
  | 4, _, ht, h8 => exact way5 ht hv h8
  | 5, _, ht, h8 => exact way6 ht hv h8
  | 6, _, ht, h8 => exact way7 ht hv h8
  | 7, _, ht, h8 => exact way8 ht hv h8
  | 8, _, ht, h8 => exact way9 ht hv h8
  | 9, _, ht, h8 => exact way10 ht hv h8
  | 10, _, ht, h8 => exact way11 ht hv h8
  | 11, _, ht, h8 => exact way12 ht hv h8
  | 12, _, ht, h8 => exact way13 ht hv h8
  | 13, _, ht, h8 => exact way14 ht hv h8
  | 14, _, ht, h8 => exact way15 ht hv h8
  | 15, _, ht, h8 => exact way16 ht hv h8
  | 16, _, ht, h8 => exact way17 ht hv h8
  | 17, _, ht, h8 => exact way18 ht hv h8
  | 18, _, ht, h8 => exact way19 ht hv h8
  | 19, _, ht, h8 => exact way20 ht hv h8
  | 20, _, ht, h8 => exact way21 ht hv h8
  | 21, _, ht, h8 => exact way22 ht hv h8
  | 22, _, ht, h8 => exact way23 ht hv h8
  | 23, _, ht, h8 => exact way24 ht hv h8
  | 24, _, ht, h8 => exact way25 ht hv h8
  | 25, _, ht, h8 => exact way26 ht hv h8
  | 26, _, ht, h8 => exact way27 ht hv h8
  | 27, _, ht, h8 => exact way28 ht hv h8
  | 28, _, ht, h8 => exact way29 ht hv h8
  | 29, _, ht, h8 => exact way30 ht hv h8
  | i + 30, h, _, _ => exact absurd h (by omega)

set_option maxRecDepth 100000 in
theorem law_lifted (os : Os) (started : os.Started) (H : Type) (enc : TypeId × Value → H) :
    ReturnsInHanded {} Tryz.checked os 3 .any (Rows.worldReclaimsSpec.pre6 enc Tryz.prog Tryz.f3 Rows.worldReclaimsRow.domain false) (Rows.worldReclaimsSpec.post enc Tryz.prog Tryz.f3 false true false false) := by
  refine returnsInHanded_of_change (C := Tryz.checked) Try.own started (by kernel_rfl) Tryz.func3
    (ChangeSpec.witness6 (enc := enc) (C := Tryz.checked) false ⟨#[], #[.int .i64 0, .int .i64 0, .bool false], []⟩ 8 (by kernel_rfl) (by kernel_rfl) (by kernel_rfl) (by kernel_rfl)) ?_
  intro W base args ds gs before hval hW _ _
  have hA := hW
  obtain ⟨p, q, hA, _⟩ := hA
  have hp : Tryz.f3.params.toList = [3, 3, 4] := by rw [Tryz.params3]
  have hv : ∀ (j : Nat) t v, [3, 3, 4][j]? = some t → args[j]? = some v → Value.okWide Tryz.prog W .any base t v := fun j t v hj hv => hval j t v (by rw [← hp] at hj; simpa using hj) hv
  rw [hp] at hA
  obtain ⟨v0, v1, v2, d0, d1, d2, p0, p1, p2, rfl, rfl, rfl, h0, h1, h2⟩ := trodAll_three hA
  obtain ⟨x, rfl, _⟩ := open_int Tryz.underlying3 (hv 0 3 v0 rfl rfl) h0
  obtain ⟨y, rfl, _⟩ := open_int Tryz.underlying3 (hv 1 3 v1 rfl rfl) h1
  obtain ⟨z, rfl, _⟩ := open_bool Tryz.underlying4 (hv 2 4 v2 rfl rfl) h2
  refine (reclaims_calls x y z W).mono ?_
  rintro e W' ⟨rfl, hb⟩
  exact ⟨_, rfl, law_post Try.laidOut (by rw [hp]; decide +kernel) rfl (by kernel_rfl) Tryz.underlying4 (fun ds hd => by rw [show Tryz.f3.params.size = 3 from by rw [← Array.length_toList, hp]; rfl] at hd; match ds, hd with | [a, b, c], _ => rfl) hW hb⟩

theorem cl1 : (Rows.worldReclaimsRow.inPlace == Tryz.pinned.checked.prog.inPlace 3) = true := by kernel_rfl
theorem cl2 : (Rows.worldReclaimsRow.unfollowed == Tryz.pinned.checked.prog.unfollowed 3) = true := by kernel_rfl
theorem cl3 : (Rows.worldReclaimsRow.recurses == Tryz.pinned.checked.prog.recurses 3) = true := by kernel_rfl
theorem cl4 : (Rows.worldReclaimsRow.named == Tryz.pinned.checked.prog.varsNamed 3) = true := by kernel_rfl
theorem law_closed : joinedFacts Tryz.pinned.checked.prog 3 Tryz.f3 Rows.worldReclaimsSpec Rows.worldReclaimsRow = true := by
  unfold joinedFacts
  rw [cl1, cl2, cl3, cl4]
  kernel_rfl

theorem law_holds : Rows.WorldReclaimsSaid :=
  OpenClaim.holds_of_wide 3 Tryz.f3 rfl rfl rfl rfl rfl rfl rfl ⟨rfl, rfl, rfl, rfl, rfl⟩ rfl rfl rfl rfl rfl (by kernel_rfl) Tryz.func3 law_closed
    (of_decide_eq_true (by kernel_rfl)) (by unfold Func.isWrapper; first | (rw [if_pos (by decide +kernel)]; kernel_rfl) | (rw [if_neg (by decide +kernel)]; exact ⟨rfl, rfl⟩))
    (fun os started H enc _ => law_lifted os started H enc)

end Go.Proofs.YtnfojfamiieieaaGreat
