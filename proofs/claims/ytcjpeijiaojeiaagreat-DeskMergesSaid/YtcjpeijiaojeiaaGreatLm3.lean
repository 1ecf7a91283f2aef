/- DeskMerges on typed data: behind 12 to 15 operations. -/
import Derived.Test.YtcjpeijiaojeiaaGreatLm
namespace Go.Proofs.YtcjpeijiaojeiaaGreat
open Go Go.Ev
set_option maxRecDepth 100000
theorem merges_12:mergesAt 12=true:=by kernel_rfl
theorem merges_13:mergesAt 13=true:=by kernel_rfl
theorem merges_14:mergesAt 14=true:=by kernel_rfl
theorem merges_15:mergesAt 15=true:=by kernel_rfl
end Go.Proofs.YtcjpeijiaojeiaaGreat
