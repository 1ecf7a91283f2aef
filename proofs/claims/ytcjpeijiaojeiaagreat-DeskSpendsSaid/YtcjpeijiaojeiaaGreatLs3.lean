/- DeskSpends on typed data: pieces of what may come. -/
import Derived.Test.YtcjpeijiaojeiaaGreatLs
namespace Go.Proofs.YtcjpeijiaojeiaaGreat
open Go Go.Ev
set_option maxRecDepth 100000
theorem sp_336:spChk 3 [3,3,6]=true:=by kernel_rfl
theorem sp_356:spChk 3 [3,5,6]=true:=by kernel_rfl
theorem sp_525:spChk 3 [5,2,5]=true:=by kernel_rfl
theorem sp_536:spChk 3 [5,3,6]=true:=by kernel_rfl
theorem sp_5553:spChk 3 [5,5,5,3]=true:=by kernel_rfl
theorem sp_635:spChk 3 [6,3,5]=true:=by kernel_rfl
theorem sp_235:spChk 3 [2,3,5]=true:=by kernel_rfl
theorem sp_325:spChk 3 [3,2,5]=true:=by kernel_rfl
theorem sp_3533:spChk 3 [3,5,3,3]=true:=by kernel_rfl
theorem sp_5333:spChk 3 [5,3,3,3]=true:=by kernel_rfl
theorem sp_57:spChk 3 [5,7]=true:=by kernel_rfl
theorem sp_8:spChk 3 [8]=true:=by kernel_rfl
theorem sp_337:spChk 2 [3,3,7]=true:=by kernel_rfl
theorem sp_5552:spChk 2 [5,5,5,2]=true:=by kernel_rfl
theorem sp_16:spChk 2 [1,6]=true:=by kernel_rfl
theorem sp_3336:spChk 2 [3,3,3,6]=true:=by kernel_rfl
theorem sp_362:spChk 2 [3,6,2]=true:=by kernel_rfl
theorem sp_5356:spChk 2 [5,3,5,6]=true:=by kernel_rfl
theorem sp_5536:spChk 2 [5,5,3,6]=true:=by kernel_rfl
theorem sp_17:spChk 1 [1,7]=true:=by kernel_rfl
theorem sp_327:spChk 1 [3,2,7]=true:=by kernel_rfl
theorem sp_3537:spChk 1 [3,5,3,7]=true:=by kernel_rfl
theorem sp_561:spChk 1 [5,6,1]=true:=by kernel_rfl
theorem sp_328:spChk 0 [3,2,8]=true:=by kernel_rfl
theorem sp_2n:spNode [3,5,6,7,8] [2]=true:=by kernel_rfl
theorem sp_32n:spNode [5,6,7,8] [3,2]=true:=by kernel_rfl
theorem sp_35n:spNode [2,3,5,6,7] [3,5]=true:=by kernel_rfl
theorem sp_5n:spNode [1,2,3,5,6,7] [5]=true:=by kernel_rfl
theorem sp_535n:spNode [2,3,5,6] [5,3,5]=true:=by kernel_rfl
theorem sp_56n:spNode [1,2,3,5] [5,6]=true:=by kernel_rfl
theorem sp_7n:spNode [1,2,3,5] [7]=true:=by kernel_rfl
end Go.Proofs.YtcjpeijiaojeiaaGreat
