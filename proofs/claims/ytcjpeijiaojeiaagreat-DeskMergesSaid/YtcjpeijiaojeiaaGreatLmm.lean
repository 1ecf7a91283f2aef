/- DeskMerges on typed data. -/
import Derived.Test.YtcjpeijiaojeiaaGreatLm0
import Derived.Test.YtcjpeijiaojeiaaGreatLm1
import Derived.Test.YtcjpeijiaojeiaaGreatLm2
import Derived.Test.YtcjpeijiaojeiaaGreatLm3
import Derived.Test.YtcjpeijiaojeiaaGreatLm4
namespace Go.Proofs.YtcjpeijiaojeiaaGreat
open Go Go.Ev
theorem merges_all:∀ n,n < 20→mergesAt n=true
  | 0,_=>merges_0
  | 1,_=>merges_1
  | 2,_=>merges_2
  | 3,_=>merges_3
  | 4,_=>merges_4
  | 5,_=>merges_5
  | 6,_=>merges_6
  | 7,_=>merges_7
  | 8,_=>merges_8
  | 9,_=>merges_9
  | 10,_=>merges_10
  | 11,_=>merges_11
  | 12,_=>merges_12
  | 13,_=>merges_13
  | 14,_=>merges_14
  | 15,_=>merges_15
  | 16,_=>merges_16
  | 17,_=>merges_17
  | 18,_=>merges_18
  | 19,_=>merges_19
  | n+20,h=>absurd h (by omega)
theorem deskMerges_true (l m:List Int):deskMerges l m=some true:=deskMerges_of merges_all l m
end Go.Proofs.YtcjpeijiaojeiaaGreat
