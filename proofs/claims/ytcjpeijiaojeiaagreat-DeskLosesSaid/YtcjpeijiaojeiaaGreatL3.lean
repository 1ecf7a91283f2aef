/- DeskLoses on typed data: every order of bindings behind 3 countings. -/
import Derived.Test.YtcjpeijiaojeiaaGreatL
namespace Go.Proofs.YtcjpeijiaojeiaaGreat
open Go Go.Ev
set_option maxRecDepth 100000
theorem losesTop_3:losesTop 3=true:=by kernel_rfl
theorem losesSub_30:losesSub 3 0=true:=by kernel_rfl
theorem losesSub_31:losesSub 3 1=true:=by kernel_rfl
theorem losesSub_32:losesSub 3 2=true:=by kernel_rfl
theorem losesSub_33:losesSub 3 3=true:=by kernel_rfl
theorem losesSub_34:losesSub 3 4=true:=by kernel_rfl
theorem losesAt_3:losesAt 3=true:=losesAt_of losesTop_3 losesSub_30 losesSub_31 losesSub_32 losesSub_33 losesSub_34
end Go.Proofs.YtcjpeijiaojeiaaGreat
