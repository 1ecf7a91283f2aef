/- LocalDeltas on typed data. -/
import Derived.Test.YthhfjodcgibhfaaGreatP
namespace Go.Proofs.YthhfjodcgibhfaaGreat
open Go Go.Ev
set_option maxRecDepth 100000

theorem deltas_all : ((List.range 7).all fun a => (List.range 9).all fun b => isT (deltasAt a b)) = true := by kernel_rfl

theorem localDeltas_at (i1 i2 : Int) : localDeltas i1 i2 = deltasAt (i1 % 7) (i2 % 9) := by
  unfold localDeltas
  rw [known_true, within_eq (a := i1) (by omega) (by omega), within_eq (a := i2) (by omega) (by omega)]
  rfl

theorem localDeltas_true (i1 i2 : Int) : localDeltas i1 i2 = some true := by
  rw [localDeltas_at]
  have a1 := Int.emod_nonneg i1 (by omega : (7 : Int) ≠ 0)
  have a2 := Int.emod_lt_of_pos i1 (by omega : (0 : Int) < 7)
  have b1 := Int.emod_nonneg i2 (by omega : (9 : Int) ≠ 0)
  have b2 := Int.emod_lt_of_pos i2 (by omega : (0 : Int) < 9)
  have h := List.all_eq_true.1 (List.all_eq_true.1 deltas_all (i1 % 7).toNat (by simp; omega)) (i2 % 9).toNat (by simp; omega)
  have e1 : (((i1 % 7).toNat : Nat) : Int) = i1 % 7 := by omega
  have e2 : (((i2 % 9).toNat : Nat) : Int) = i2 % 9 := by omega
  rw [e1, e2] at h
  exact isT_eq h

end Go.Proofs.YthhfjodcgibhfaaGreat
