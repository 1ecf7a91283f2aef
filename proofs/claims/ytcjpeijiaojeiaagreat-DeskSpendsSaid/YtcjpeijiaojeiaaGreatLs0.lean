/- DeskSpends on typed data: pieces of what may come. -/
import Derived.Test.YtcjpeijiaojeiaaGreatLs
namespace Go.Proofs.YtcjpeijiaojeiaaGreat
open Go Go.Ev
set_option maxRecDepth 100000
theorem sp_255:spChk 3 [2,5,5]=true:=by kernel_rfl
theorem sp_3535:spChk 3 [3,5,3,5]=true:=by kernel_rfl
theorem sp_363:spChk 3 [3,6,3]=true:=by kernel_rfl
theorem sp_5335:spChk 3 [5,3,3,5]=true:=by kernel_rfl
theorem sp_552:spChk 3 [5,5,2]=true:=by kernel_rfl
theorem sp_563:spChk 3 [5,6,3]=true:=by kernel_rfl
theorem sp_653:spChk 3 [6,5,3]=true:=by kernel_rfl
theorem sp_3335:spChk 3 [3,3,3,5]=true:=by kernel_rfl
theorem sp_51:spChk 3 [5,1]=true:=by kernel_rfl
theorem sp_5555:spChk 3 [5,5,5,5]=true:=by kernel_rfl
theorem sp_655:spChk 3 [6,5,5]=true:=by kernel_rfl
theorem sp_256:spChk 2 [2,5,6]=true:=by kernel_rfl
theorem sp_3536:spChk 2 [3,5,3,6]=true:=by kernel_rfl
theorem sp_562:spChk 2 [5,6,2]=true:=by kernel_rfl
theorem sp_236:spChk 2 [2,3,6]=true:=by kernel_rfl
theorem sp_3552:spChk 2 [3,5,5,2]=true:=by kernel_rfl
theorem sp_366:spChk 2 [3,6,6]=true:=by kernel_rfl
theorem sp_537:spChk 2 [5,3,7]=true:=by kernel_rfl
theorem sp_61:spChk 2 [6,1]=true:=by kernel_rfl
theorem sp_237:spChk 1 [2,3,7]=true:=by kernel_rfl
theorem sp_3337:spChk 1 [3,3,3,7]=true:=by kernel_rfl
theorem sp_527:spChk 1 [5,2,7]=true:=by kernel_rfl
theorem sp_651:spChk 1 [6,5,1]=true:=by kernel_rfl
theorem sp_3338:spChk 0 [3,3,3,8]=true:=by kernel_rfl
theorem sp_23n:spNode [5,6,7,8] [2,3]=true:=by kernel_rfl
theorem sp_33n:spNode [3,5,6,7,8] [3,3]=true:=by kernel_rfl
theorem sp_353n:spNode [3,5,6,7] [3,5,3]=true:=by kernel_rfl
theorem sp_52n:spNode [3,5,6,7] [5,2]=true:=by kernel_rfl
theorem sp_55n:spNode [1,2,3,5,6] [5,5]=true:=by kernel_rfl
theorem sp_6n:spNode [1,2,3,5,6] [6]=true:=by kernel_rfl
end Go.Proofs.YtcjpeijiaojeiaaGreat
