/- DeskCloses on typed data. -/
import Derived.Test.YtcjpeijiaojeiaaGreatLc0
import Derived.Test.YtcjpeijiaojeiaaGreatLc1
import Derived.Test.YtcjpeijiaojeiaaGreatLc2
import Derived.Test.YtcjpeijiaojeiaaGreatLc3
import Derived.Test.YtcjpeijiaojeiaaGreatLc4
namespace Go.Proofs.YtcjpeijiaojeiaaGreat
open Go Go.Ev
theorem deskCloses_true (i j k:Int):deskCloses i j k=some true:=by
  have a1:=Int.emod_nonneg i (by omega:(5:Int)≠0)
  have a2:=Int.emod_lt_of_pos i (by omega:(0:Int) < 5)
  have:i % 5=0∨i % 5=1∨i % 5=2∨i % 5=3∨i % 5=4:=by omega
  rcases this with h | h | h | h | h
  · exact closes_of 0 closes_0 i j k h
  · exact closes_of 1 closes_1 i j k h
  · exact closes_of 2 closes_2 i j k h
  · exact closes_of 3 closes_3 i j k h
  · exact closes_of 4 closes_4 i j k h
end Go.Proofs.YtcjpeijiaojeiaaGreat
