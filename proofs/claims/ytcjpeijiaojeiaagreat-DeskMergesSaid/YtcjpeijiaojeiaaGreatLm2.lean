/- DeskMerges on typed data: behind 8 to 11 operations. -/
import Derived.Test.YtcjpeijiaojeiaaGreatLm
namespace Go.Proofs.YtcjpeijiaojeiaaGreat
open Go Go.Ev
set_option maxRecDepth 100000
theorem merges_8:mergesAt 8=true:=by kernel_rfl
theorem merges_9:mergesAt 9=true:=by kernel_rfl
theorem merges_10:mergesAt 10=true:=by kernel_rfl
theorem merges_11:mergesAt 11=true:=by kernel_rfl
end Go.Proofs.YtcjpeijiaojeiaaGreat
