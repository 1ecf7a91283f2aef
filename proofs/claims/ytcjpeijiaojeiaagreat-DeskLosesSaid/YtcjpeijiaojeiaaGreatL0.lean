/- DeskLoses on typed data: every order of bindings behind 0 countings. -/
import Derived.Test.YtcjpeijiaojeiaaGreatL
namespace Go.Proofs.YtcjpeijiaojeiaaGreat
open Go Go.Ev
set_option maxRecDepth 100000
theorem losesTop_0:losesTop 0=true:=by kernel_rfl
theorem losesSub_00:losesSub 0 0=true:=by kernel_rfl
theorem losesSub_01:losesSub 0 1=true:=by kernel_rfl
theorem losesSub_02:losesSub 0 2=true:=by kernel_rfl
theorem losesSub_03:losesSub 0 3=true:=by kernel_rfl
theorem losesSub_04:losesSub 0 4=true:=by kernel_rfl
theorem losesAt_0:losesAt 0=true:=losesAt_of losesTop_0 losesSub_00 losesSub_01 losesSub_02 losesSub_03 losesSub_04
end Go.Proofs.YtcjpeijiaojeiaaGreat
