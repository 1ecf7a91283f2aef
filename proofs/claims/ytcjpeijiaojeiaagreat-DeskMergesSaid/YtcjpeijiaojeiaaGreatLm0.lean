/- DeskMerges on typed data: behind 0 to 3 operations. -/
import Derived.Test.YtcjpeijiaojeiaaGreatLm
namespace Go.Proofs.YtcjpeijiaojeiaaGreat
open Go Go.Ev
set_option maxRecDepth 100000
theorem merges_0:mergesAt 0=true:=by kernel_rfl
theorem merges_1:mergesAt 1=true:=by kernel_rfl
theorem merges_2:mergesAt 2=true:=by kernel_rfl
theorem merges_3:mergesAt 3=true:=by kernel_rfl
end Go.Proofs.YtcjpeijiaojeiaaGreat
