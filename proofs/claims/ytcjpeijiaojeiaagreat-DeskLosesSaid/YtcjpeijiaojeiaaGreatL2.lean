/- DeskLoses on typed data: every order of bindings behind 2 countings. -/
import Derived.Test.YtcjpeijiaojeiaaGreatL
namespace Go.Proofs.YtcjpeijiaojeiaaGreat
open Go Go.Ev
set_option maxRecDepth 100000
theorem losesTop_2:losesTop 2=true:=by kernel_rfl
theorem losesSub_20:losesSub 2 0=true:=by kernel_rfl
theorem losesSub_21:losesSub 2 1=true:=by kernel_rfl
theorem losesSub_22:losesSub 2 2=true:=by kernel_rfl
theorem losesSub_23:losesSub 2 3=true:=by kernel_rfl
theorem losesSub_24:losesSub 2 4=true:=by kernel_rfl
theorem losesAt_2:losesAt 2=true:=losesAt_of losesTop_2 losesSub_20 losesSub_21 losesSub_22 losesSub_23 losesSub_24
end Go.Proofs.YtcjpeijiaojeiaaGreat
