/- DeskSpends on typed data: pieces of what may come. -/
import Derived.Test.YtcjpeijiaojeiaaGreatLs
namespace Go.Proofs.YtcjpeijiaojeiaaGreat
open Go Go.Ev
set_option maxRecDepth 100000
theorem sp_3355:spChk 3 [3,3,5,5]=true:=by kernel_rfl
theorem sp_3555:spChk 3 [3,5,5,5]=true:=by kernel_rfl
theorem sp_37:spChk 3 [3,7]=true:=by kernel_rfl
theorem sp_5355:spChk 3 [5,3,5,5]=true:=by kernel_rfl
theorem sp_5535:spChk 3 [5,5,3,5]=true:=by kernel_rfl
theorem sp_633:spChk 3 [6,3,3]=true:=by kernel_rfl
theorem sp_15:spChk 3 [1,5]=true:=by kernel_rfl
theorem sp_253:spChk 3 [2,5,3]=true:=by kernel_rfl
theorem sp_352:spChk 3 [3,5,2]=true:=by kernel_rfl
theorem sp_532:spChk 3 [5,3,2]=true:=by kernel_rfl
theorem sp_565:spChk 3 [5,6,5]=true:=by kernel_rfl
theorem sp_75:spChk 3 [7,5]=true:=by kernel_rfl
theorem sp_3356:spChk 2 [3,3,5,6]=true:=by kernel_rfl
theorem sp_5336:spChk 2 [5,3,3,6]=true:=by kernel_rfl
theorem sp_72:spChk 2 [7,2]=true:=by kernel_rfl
theorem sp_357:spChk 2 [3,5,7]=true:=by kernel_rfl
theorem sp_5352:spChk 2 [5,3,5,2]=true:=by kernel_rfl
theorem sp_5532:spChk 2 [5,5,3,2]=true:=by kernel_rfl
theorem sp_636:spChk 2 [6,3,6]=true:=by kernel_rfl
theorem sp_28:spChk 1 [2,8]=true:=by kernel_rfl
theorem sp_338:spChk 1 [3,3,8]=true:=by kernel_rfl
theorem sp_5551:spChk 1 [5,5,5,1]=true:=by kernel_rfl
theorem sp_18:spChk 0 [1,8]=true:=by kernel_rfl
theorem sp_238:spChk 0 [2,3,8]=true:=by kernel_rfl
theorem sp_1n:spNode [5,6,7,8] [1]=true:=by kernel_rfl
theorem sp_3n:spNode [2,3,5,6,7,8] [3]=true:=by kernel_rfl
theorem sp_335n:spNode [3,5,6,7] [3,3,5]=true:=by kernel_rfl
theorem sp_36n:spNode [2,3,5,6] [3,6]=true:=by kernel_rfl
theorem sp_533n:spNode [3,5,6,7] [5,3,3]=true:=by kernel_rfl
theorem sp_555n:spNode [1,2,3,5] [5,5,5]=true:=by kernel_rfl
theorem sp_65n:spNode [1,2,3,5] [6,5]=true:=by kernel_rfl
end Go.Proofs.YtcjpeijiaojeiaaGreat
