/- DeskLoses on typed data: every order of bindings behind 1 countings. -/
import Derived.Test.YtcjpeijiaojeiaaGreatL
namespace Go.Proofs.YtcjpeijiaojeiaaGreat
open Go Go.Ev
set_option maxRecDepth 100000
theorem losesTop_1:losesTop 1=true:=by kernel_rfl
theorem losesSub_10:losesSub 1 0=true:=by kernel_rfl
theorem losesSub_11:losesSub 1 1=true:=by kernel_rfl
theorem losesSub_12:losesSub 1 2=true:=by kernel_rfl
theorem losesSub_13:losesSub 1 3=true:=by kernel_rfl
theorem losesSub_14:losesSub 1 4=true:=by kernel_rfl
theorem losesAt_1:losesAt 1=true:=losesAt_of losesTop_1 losesSub_10 losesSub_11 losesSub_12 losesSub_13 losesSub_14
end Go.Proofs.YtcjpeijiaojeiaaGreat
