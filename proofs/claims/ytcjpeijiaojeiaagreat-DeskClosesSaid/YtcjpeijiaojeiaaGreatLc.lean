/- DeskCloses on typed data. -/
import Derived.Test.YtcjpeijiaojeiaaGreatP
namespace Go.Proofs.YtcjpeijiaojeiaaGreat
open Go Go.Ev
set_option maxRecDepth 100000
def closesRow (a b:Nat):Bool:=(List.range 40).all fun (c:Nat)=>isT (deskCloses (a:Int) (b:Int) (c:Int))
def closesAt (a:Nat):Bool:=(List.range 7).all fun (b:Nat)=>closesRow a b
theorem deskCloses_mod (i j k:Int):deskCloses i j k=deskCloses (i % 5) (j % 7) (k % 40):=by
  unfold deskCloses
  rw [within_eq (a:=i) (n:=5) (by omega) (by omega),within_eq (a:=i % 5) (n:=5) (by omega) (by omega),Int.emod_emod_of_dvd i (Int.dvd_refl 5),
    within_eq (a:=j) (n:=7) (by omega) (by omega),within_eq (a:=j % 7) (n:=7) (by omega) (by omega),Int.emod_emod_of_dvd j (Int.dvd_refl 7),
    within_eq (a:=k) (n:=40) (by omega) (by omega),within_eq (a:=k % 40) (n:=40) (by omega) (by omega),Int.emod_emod_of_dvd k (Int.dvd_refl 40)]
theorem closes_of (a:Nat)(h:closesAt a=true)(i j k:Int)(hi:i % 5=a):deskCloses i j k=some true:=by
  rw [deskCloses_mod,hi]
  have b1:=Int.emod_nonneg j (by omega:(7:Int)≠0)
  have b2:=Int.emod_lt_of_pos j (by omega:(0:Int) < 7)
  have c1:=Int.emod_nonneg k (by omega:(40:Int)≠0)
  have c2:=Int.emod_lt_of_pos k (by omega:(0:Int) < 40)
  have h1:=List.all_eq_true.1 h (j % 7).toNat (by simp;omega)
  have h2:=List.all_eq_true.1 h1 (k % 40).toNat (by simp;omega)
  rw [show (((j % 7).toNat:Nat):Int)=j % 7 by omega,show (((k % 40).toNat:Nat):Int)=k % 40 by omega] at h2
  exact isT_eq h2
end Go.Proofs.YtcjpeijiaojeiaaGreat
