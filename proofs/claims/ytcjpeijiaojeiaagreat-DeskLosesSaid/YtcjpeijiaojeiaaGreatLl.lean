/- DeskLoses on typed data. -/
import Derived.Test.YtcjpeijiaojeiaaGreatL0
import Derived.Test.YtcjpeijiaojeiaaGreatL1
import Derived.Test.YtcjpeijiaojeiaaGreatL2
import Derived.Test.YtcjpeijiaojeiaaGreatL3
import Derived.Test.YtcjpeijiaojeiaaGreatL4
namespace Go.Proofs.YtcjpeijiaojeiaaGreat
open Go Go.Ev
set_option maxRecDepth 100000
theorem loses7_eq (l:List Int)(d:Nat)(hd:d < 5):L4_7 d l 0 1 (Cmd.mk 3 0 1 0 0 [] [])=(match loses7 d with | some y=>some ((d:Int),l,y.1,y.2) | none=>none):=by
  have:d=0∨d=1∨d=2∨d=3∨d=4:=by omega
  rcases this with rfl | rfl | rfl | rfl | rfl<;>rfl
theorem deskLoses_at (d:Nat)(hd:d < 5)(i1:Int)(l:List Int)(hi:i1 % 5=d)(h:losesAt d=true):deskLoses i1 l=some true:=by
  rw [deskLoses_eq,known_true,ob_some,Bool.not_true,cond_false,within_eq (by omega) (by omega),ob_some,hi,loses7_eq l d hd]
  unfold losesAt at h
  cases h7:loses7 d with
  | none=>rw [h7] at h;cases h
  | some y =>
    rw [h7] at h
    obtain ⟨z,h1,h2⟩:=loses_loop (d:=d) (l:=l) (min l.length 5) 0 5 (((l.length:Int) - 0).toNat+2) (losesIn y) h (by omega) (by omega) (by simp;omega)
    have h3:L4_14 (d:Int) l y.1 0 0 y.2 (A5Bool.mk false false false false false)=some z:=h1
    simp only [ob_some]
    rw [h3,ob_some,h2]
theorem deskLoses_true (i1:Int)(l:List Int):deskLoses i1 l=some true:=by
  have a1:=Int.emod_nonneg i1 (by omega:(5:Int)≠0)
  have a2:=Int.emod_lt_of_pos i1 (by omega:(0:Int) < 5)
  have:i1 % 5=0∨i1 % 5=1∨i1 % 5=2∨i1 % 5=3∨i1 % 5=4:=by omega
  rcases this with h | h | h | h | h
  · exact deskLoses_at 0 (by omega) i1 l h losesAt_0
  · exact deskLoses_at 1 (by omega) i1 l h losesAt_1
  · exact deskLoses_at 2 (by omega) i1 l h losesAt_2
  · exact deskLoses_at 3 (by omega) i1 l h losesAt_3
  · exact deskLoses_at 4 (by omega) i1 l h losesAt_4
end Go.Proofs.YtcjpeijiaojeiaaGreat
