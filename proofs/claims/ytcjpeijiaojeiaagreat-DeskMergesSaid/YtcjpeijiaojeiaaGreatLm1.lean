/- DeskMerges on typed data: behind 4 to 7 operations. -/
import Derived.Test.YtcjpeijiaojeiaaGreatLm
namespace Go.Proofs.YtcjpeijiaojeiaaGreat
open Go Go.Ev
set_option maxRecDepth 100000
theorem merges_4:mergesAt 4=true:=by kernel_rfl
theorem merges_5:mergesAt 5=true:=by kernel_rfl
theorem merges_6:mergesAt 6=true:=by kernel_rfl
theorem merges_7:mergesAt 7=true:=by kernel_rfl
end Go.Proofs.YtcjpeijiaojeiaaGreat
