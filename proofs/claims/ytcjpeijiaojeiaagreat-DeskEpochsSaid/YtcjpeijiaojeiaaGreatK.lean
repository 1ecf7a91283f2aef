/- DeskEpochs on typed data. -/
import Derived.Test.YtcjpeijiaojeiaaGreatP
namespace Go.Proofs.YtcjpeijiaojeiaaGreat
open Go Go.Ev
set_option maxRecDepth 100000

theorem epochs_all : ((List.range 6).all fun a => isT (deskEpochs (a : Int))) = true := by kernel_rfl

theorem deskEpochs_mod (i : Int) : deskEpochs i = deskEpochs (i % 6) := by
  unfold deskEpochs
  rw [within_eq (a := i) (by omega) (by omega), within_eq (a := i % 6) (by omega) (by omega), Int.emod_emod_of_dvd i (Int.dvd_refl 6)]

theorem deskEpochs_true (i : Int) : deskEpochs i = some true := by
  rw [deskEpochs_mod]
  have a1 := Int.emod_nonneg i (by omega : (6 : Int) ≠ 0)
  have a2 := Int.emod_lt_of_pos i (by omega : (0 : Int) < 6)
  have h := List.all_eq_true.1 epochs_all (i % 6).toNat (by simp; omega)
  have e1 : (((i % 6).toNat : Nat) : Int) = i % 6 := by omega
  rw [e1] at h
  exact isT_eq h

end Go.Proofs.YtcjpeijiaojeiaaGreat
