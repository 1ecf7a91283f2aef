/- LocalFenced on typed data. -/
import Derived.Test.YthhfjodcgibhfaaGreatP
namespace Go.Proofs.YthhfjodcgibhfaaGreat
open Go Go.Ev
set_option maxRecDepth 100000

theorem fenced_all : ((List.range 4).all fun a => isT (fencedAt a true) && isT (fencedAt a false)) = true := by kernel_rfl

theorem localFenced_at (i1 : Int) (b1 : Bool) : localFenced i1 b1 = fencedAt (i1 % 4) b1 := by
  unfold localFenced
  rw [known_true, within_eq (a := i1) (by omega) (by omega)]
  rfl

theorem localFenced_true (i1 : Int) (b1 : Bool) : localFenced i1 b1 = some true := by
  rw [localFenced_at]
  have a1 := Int.emod_nonneg i1 (by omega : (4 : Int) ≠ 0)
  have a2 := Int.emod_lt_of_pos i1 (by omega : (0 : Int) < 4)
  have h := List.all_eq_true.1 fenced_all (i1 % 4).toNat (by simp; omega)
  have e1 : (((i1 % 4).toNat : Nat) : Int) = i1 % 4 := by omega
  rw [e1, Bool.and_eq_true] at h
  cases b1
  · exact isT_eq h.2
  · exact isT_eq h.1

end Go.Proofs.YthhfjodcgibhfaaGreat
