/- DeskLoses on typed data: every order of bindings behind 4 countings. -/
import Derived.Test.YtcjpeijiaojeiaaGreatL
namespace Go.Proofs.YtcjpeijiaojeiaaGreat
open Go Go.Ev
set_option maxRecDepth 100000
theorem losesTop_4:losesTop 4=true:=by kernel_rfl
theorem losesSub_40:losesSub 4 0=true:=by kernel_rfl
theorem losesSub_41:losesSub 4 1=true:=by kernel_rfl
theorem losesSub_42:losesSub 4 2=true:=by kernel_rfl
theorem losesSub_43:losesSub 4 3=true:=by kernel_rfl
theorem losesSub_44:losesSub 4 4=true:=by kernel_rfl
theorem losesAt_4:losesAt 4=true:=losesAt_of losesTop_4 losesSub_40 losesSub_41 losesSub_42 losesSub_43 losesSub_44
end Go.Proofs.YtcjpeijiaojeiaaGreat
