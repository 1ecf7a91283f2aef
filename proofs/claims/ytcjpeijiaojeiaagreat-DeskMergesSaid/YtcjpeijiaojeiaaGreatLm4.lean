/- DeskMerges on typed data: behind 16 to 19 operations. -/
import Derived.Test.YtcjpeijiaojeiaaGreatLm
namespace Go.Proofs.YtcjpeijiaojeiaaGreat
open Go Go.Ev
set_option maxRecDepth 100000
theorem merges_16:mergesAt 16=true:=by kernel_rfl
theorem merges_17:mergesAt 17=true:=by kernel_rfl
theorem merges_18:mergesAt 18=true:=by kernel_rfl
theorem merges_19:mergesAt 19=true:=by kernel_rfl
end Go.Proofs.YtcjpeijiaojeiaaGreat
