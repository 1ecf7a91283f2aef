/- The law GroupSnaps: for every input the call returns true, and each argument reads behind it as before. -/
import Derived.Test.YtoojkcadgocbdaaGreatSd1
import Derived.Test.YtoojkcadgocbdaaGreatSd2
import Derived.Test.YtoojkcadgocbdaaGreatT30
import Derived.Test.YtoojkcadgocbdaaGreatT32
import Derived.Test.YtoojkcadgocbdaaGreatT34
import Derived.Test.YtoojkcadgocbdaaGreatT36
import Derived.Test.YtoojkcadgocbdaaGreatT38
import Derived.Test.YtoojkcadgocbdaaGreatT40
import Derived.Test.YtoojkcadgocbdaaGreatT42
import Derived.Test.YtoojkcadgocbdaaGreatT44
import Derived.Test.YtoojkcadgocbdaaGreatT46
import Derived.Test.YtoojkcadgocbdaaGreatT48
import Derived.Test.YtoojkcadgocbdaaGreatT50
import Derived.Test.YtoojkcadgocbdaaGreatT52
import Derived.Test.YtoojkcadgocbdaaGreatT54
import Derived.Test.YtoojkcadgocbdaaGreatT56
import Derived.Test.YtoojkcadgocbdaaGreatT58
import Derived.Test.YtoojkcadgocbdaaGreatT60
import Derived.Test.YtoojkcadgocbdaaGreatT62
import Derived.Test.YtoojkcadgocbdaaGreatT64
import Derived.Test.YtoojkcadgocbdaaGreatT66
import Derived.Test.YtoojkcadgocbdaaGreatT68
namespace Go.Proofs.YtoojkcadgocbdaaGreat
open Go Go.Cx Go.ChangeShapes Go.WideShapes Go.ChangeAt Go.RowKit

theorem Try.own : ownKnob Tryz.prog.godebug = none := by kernel_rfl
theorem Try.laidOut : laidOutB Tryz.prog = true := by kernel_rfl

theorem all1 {n away : Int} {wB : World} : ∀ {m : Nat}, 30 ≤ m → m < 70 → LpN n away m 1 wB P1_0 := by
  intro m h1 h2
  obtain ⟨i, rfl⟩ : ∃ i : Nat, m = i + 30 := ⟨m - 30, by omega⟩
  match i, h2 with
  | 0, _ => exact dn1_30 (by omega) leaf1_30
  | 1, _ => exact dn1_31 (by omega) leaf1_31
  | 2, _ => exact dn1_32 (by omega) leaf1_32
  | 3, _ => exact dn1_33 (by omega) leaf1_33
  | 4, _ => exact dn1_34 (by omega) leaf1_34
  | 5, _ => exact dn1_35 (by omega) leaf1_35
  | 6, _ => exact dn1_36 (by omega) leaf1_36
  | 7, _ => exact dn1_37 (by omega) leaf1_37
  | 8, _ => exact dn1_38 (by omega) leaf1_38
  | 9, _ => exact dn1_39 (by omega) leaf1_39
  | 10, _ => exact dn1_40 (by omega) leaf1_40
  | 11, _ => exact dn1_41 (by omega) leaf1_41
  | 12, _ => exact dn1_42 (by omega) leaf1_42
  | 13, _ => exact dn1_43 (by omega) leaf1_43
  | 14, _ => exact dn1_44 (by omega) leaf1_44
  | 15, _ => exact dn1_45 (by omega) leaf1_45
  | 16, _ => exact dn1_46 (by omega) leaf1_46
  | 17, _ => exact dn1_47 (by omega) leaf1_47
  | 18, _ => exact dn1_48 (by omega) leaf1_48
  | 19, _ => exact dn1_49 (by omega) leaf1_49
  | 20, _ => exact dn1_50 (by omega) leaf1_50
  | 21, _ => exact dn1_51 (by omega) leaf1_51
  | 22, _ => exact dn1_52 (by omega) leaf1_52
  | 23, _ => exact dn1_53 (by omega) leaf1_53
  | 24, _ => exact dn1_54 (by omega) leaf1_54
  | 25, _ => exact dn1_55 (by omega) leaf1_55
  | 26, _ => exact dn1_56 (by omega) leaf1_56
  | 27, _ => exact dn1_57 (by omega) leaf1_57
  | 28, _ => exact dn1_58 (by omega) leaf1_58
  | 29, _ => exact dn1_59 (by omega) leaf1_59
  | 30, _ => exact dn1_60 (by omega) leaf1_60
  | 31, _ => exact dn1_61 (by omega) leaf1_61
  | 32, _ => exact dn1_62 (by omega) leaf1_62
  | 33, _ => exact dn1_63 (by omega) leaf1_63
  | 34, _ => exact dn1_64 (by omega) leaf1_64
  | 35, _ => exact dn1_65 (by omega) leaf1_65
  | 36, _ => exact dn1_66 (by omega) leaf1_66
  | 37, _ => exact dn1_67 (by omega) leaf1_67
  | 38, _ => exact dn1_68 (by omega) leaf1_68
  | 39, _ => exact dn1_69 (by omega) leaf1_69
  | i + 40, h => exact absurd h (by omega)
theorem all2 {n away : Int} {wB : World} : ∀ {m : Nat}, 30 ≤ m → m < 70 → LpN n away m 2 wB P2_0 := by
  intro m h1 h2
  obtain ⟨i, rfl⟩ : ∃ i : Nat, m = i + 30 := ⟨m - 30, by omega⟩
  match i, h2 with
  | 0, _ => exact dn2_30 (by omega) leaf2_30
  | 1, _ => exact dn2_31 (by omega) leaf2_31
  | 2, _ => exact dn2_32 (by omega) leaf2_32
  | 3, _ => exact dn2_33 (by omega) leaf2_33
  | 4, _ => exact dn2_34 (by omega) leaf2_34
  | 5, _ => exact dn2_35 (by omega) leaf2_35
  | 6, _ => exact dn2_36 (by omega) leaf2_36
  | 7, _ => exact dn2_37 (by omega) leaf2_37
  | 8, _ => exact dn2_38 (by omega) leaf2_38
  | 9, _ => exact dn2_39 (by omega) leaf2_39
  | 10, _ => exact dn2_40 (by omega) leaf2_40
  | 11, _ => exact dn2_41 (by omega) leaf2_41
  | 12, _ => exact dn2_42 (by omega) leaf2_42
  | 13, _ => exact dn2_43 (by omega) leaf2_43
  | 14, _ => exact dn2_44 (by omega) leaf2_44
  | 15, _ => exact dn2_45 (by omega) leaf2_45
  | 16, _ => exact dn2_46 (by omega) leaf2_46
  | 17, _ => exact dn2_47 (by omega) leaf2_47
  | 18, _ => exact dn2_48 (by omega) leaf2_48
  | 19, _ => exact dn2_49 (by omega) leaf2_49
  | 20, _ => exact dn2_50 (by omega) leaf2_50
  | 21, _ => exact dn2_51 (by omega) leaf2_51
  | 22, _ => exact dn2_52 (by omega) leaf2_52
  | 23, _ => exact dn2_53 (by omega) leaf2_53
  | 24, _ => exact dn2_54 (by omega) leaf2_54
  | 25, _ => exact dn2_55 (by omega) leaf2_55
  | 26, _ => exact dn2_56 (by omega) leaf2_56
  | 27, _ => exact dn2_57 (by omega) leaf2_57
  | 28, _ => exact dn2_58 (by omega) leaf2_58
  | 29, _ => exact dn2_59 (by omega) leaf2_59
  | 30, _ => exact dn2_60 (by omega) leaf2_60
  | 31, _ => exact dn2_61 (by omega) leaf2_61
  | 32, _ => exact dn2_62 (by omega) leaf2_62
  | 33, _ => exact dn2_63 (by omega) leaf2_63
  | 34, _ => exact dn2_64 (by omega) leaf2_64
  | 35, _ => exact dn2_65 (by omega) leaf2_65
  | 36, _ => exact dn2_66 (by omega) leaf2_66
  | 37, _ => exact dn2_67 (by omega) leaf2_67
  | 38, _ => exact dn2_68 (by omega) leaf2_68
  | 39, _ => exact dn2_69 (by omega) leaf2_69
  | i + 40, h => exact absurd h (by omega)
theorem snaps_calls (n away : Int) (w : World) : Calls Tryz.prog 3 #[.int .i64 n, .int .i64 away] w fun e w' => e = .returned (.bool true) ∧ Below w.heap.size w w' := by
  obtain ⟨m, hm⟩ : ∃ m : Nat, 30 + n % 40 = m := ⟨(30 + n % 40).toNat, by omega⟩
  obtain ⟨b, hb⟩ : ∃ b : Nat, 1 + away % 2 = b := ⟨(1 + away % 2).toNat, by omega⟩
  have h1 : 30 ≤ m := by omega
  have h2 : m < 70 := by omega
  have h3 : b = 1 ∨ b = 2 := by omega
  rcases h3 with rfl | rfl
  · exact in1 hm hb (all1 h1 h2)
  · exact in2 hm hb (all2 h1 h2)

set_option maxRecDepth 100000 in
theorem law_lifted (os : Os) (started : os.Started) (H : Type) (enc : TypeId × Value → H) :
    ReturnsInHanded {} Tryz.checked os 3 .any (Rows.groupSnapsSpec.pre6 enc Tryz.prog Tryz.f3 Rows.groupSnapsRow.domain false) (Rows.groupSnapsSpec.post enc Tryz.prog Tryz.f3 false true false false) := by
  refine returnsInHanded_of_change (C := Tryz.checked) Try.own started (by kernel_rfl) Tryz.func3
    (ChangeSpec.witness6 (enc := enc) (C := Tryz.checked) false ⟨#[], #[.int .i64 0, .int .i64 0], []⟩ 8 (by kernel_rfl) (by kernel_rfl) (by kernel_rfl) (by kernel_rfl)) ?_
  intro W base args ds gs before hval hW _ _
  have hA := hW
  obtain ⟨p, q, hA, _⟩ := hA
  have hp : Tryz.f3.params.toList = [3, 3] := by rw [Tryz.params3]
  have hv : ∀ (j : Nat) t v, [3, 3][j]? = some t → args[j]? = some v → Value.okWide Tryz.prog W .any base t v := fun j t v hj hv => hval j t v (by rw [← hp] at hj; simpa using hj) hv
  rw [hp] at hA
  obtain ⟨v0, v1, d0, d1, p0, p1, rfl, rfl, rfl, h0, h1⟩ := trodAll_two hA
  obtain ⟨x, rfl, _⟩ := open_int Tryz.underlying3 (hv 0 3 v0 rfl rfl) h0
  obtain ⟨y, rfl, _⟩ := open_int Tryz.underlying3 (hv 1 3 v1 rfl rfl) h1
  refine (snaps_calls x y W).mono ?_
  rintro e W' ⟨rfl, hb⟩
  exact ⟨_, rfl, law_post Try.laidOut (by rw [hp]; decide +kernel) rfl (by kernel_rfl) Tryz.underlying4 (fun ds hd => by rw [show Tryz.f3.params.size = 2 from by rw [← Array.length_toList, hp]; rfl] at hd; match ds, hd with | [a, b], _ => rfl) hW hb⟩

theorem cl1 : (Rows.groupSnapsRow.inPlace == Tryz.pinned.checked.prog.inPlace 3) = true := by kernel_rfl
theorem cl2 : (Rows.groupSnapsRow.unfollowed == Tryz.pinned.checked.prog.unfollowed 3) = true := by kernel_rfl
theorem cl3 : (Rows.groupSnapsRow.recurses == Tryz.pinned.checked.prog.recurses 3) = true := by kernel_rfl
theorem cl4 : (Rows.groupSnapsRow.named == Tryz.pinned.checked.prog.varsNamed 3) = true := by kernel_rfl
theorem law_closed : joinedFacts Tryz.pinned.checked.prog 3 Tryz.f3 Rows.groupSnapsSpec Rows.groupSnapsRow = true := by
  unfold joinedFacts
  rw [cl1, cl2, cl3, cl4]
  kernel_rfl

theorem law_holds : Rows.GroupSnapsSaid :=
  OpenClaim.holds_of_wide 3 Tryz.f3 rfl rfl rfl rfl rfl rfl rfl ⟨rfl, rfl, rfl, rfl, rfl⟩ rfl rfl rfl rfl rfl (by kernel_rfl) Tryz.func3 law_closed
    (of_decide_eq_true (by kernel_rfl)) (by unfold Func.isWrapper; first | (rw [if_pos (by decide +kernel)]; kernel_rfl) | (rw [if_neg (by decide +kernel)]; exact ⟨rfl, rfl⟩))
    (fun os started H enc _ => law_lifted os started H enc)

end Go.Proofs.YtoojkcadgocbdaaGreat
