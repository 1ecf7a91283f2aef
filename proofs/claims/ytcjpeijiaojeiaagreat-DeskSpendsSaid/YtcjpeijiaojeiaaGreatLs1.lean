/- DeskSpends on typed data: pieces of what may come. -/
import Derived.Test.YtcjpeijiaojeiaaGreatLs
namespace Go.Proofs.YtcjpeijiaojeiaaGreat
open Go Go.Ev
set_option maxRecDepth 100000
theorem sp_26:spChk 3 [2,6]=true:=by kernel_rfl
theorem sp_3553:spChk 3 [3,5,5,3]=true:=by kernel_rfl
theorem sp_365:spChk 3 [3,6,5]=true:=by kernel_rfl
theorem sp_5353:spChk 3 [5,3,5,3]=true:=by kernel_rfl
theorem sp_5533:spChk 3 [5,5,3,3]=true:=by kernel_rfl
theorem sp_62:spChk 3 [6,2]=true:=by kernel_rfl
theorem sp_73:spChk 3 [7,3]=true:=by kernel_rfl
theorem sp_3353:spChk 3 [3,3,5,3]=true:=by kernel_rfl
theorem sp_523:spChk 3 [5,2,3]=true:=by kernel_rfl
theorem sp_556:spChk 3 [5,5,6]=true:=by kernel_rfl
theorem sp_66:spChk 3 [6,6]=true:=by kernel_rfl
theorem sp_27:spChk 2 [2,7]=true:=by kernel_rfl
theorem sp_526:spChk 2 [5,2,6]=true:=by kernel_rfl
theorem sp_652:spChk 2 [6,5,2]=true:=by kernel_rfl
theorem sp_326:spChk 2 [3,2,6]=true:=by kernel_rfl
theorem sp_3556:spChk 2 [3,5,5,6]=true:=by kernel_rfl
theorem sp_38:spChk 2 [3,8]=true:=by kernel_rfl
theorem sp_551:spChk 2 [5,5,1]=true:=by kernel_rfl
theorem sp_632:spChk 2 [6,3,2]=true:=by kernel_rfl
theorem sp_257:spChk 1 [2,5,7]=true:=by kernel_rfl
theorem sp_3357:spChk 1 [3,3,5,7]=true:=by kernel_rfl
theorem sp_5337:spChk 1 [5,3,3,7]=true:=by kernel_rfl
theorem sp_71:spChk 1 [7,1]=true:=by kernel_rfl
theorem sp_n:spNode [1,2,3,5,6,7,8] []=true:=by kernel_rfl
theorem sp_25n:spNode [3,5,6,7] [2,5]=true:=by kernel_rfl
theorem sp_333n:spNode [5,6,7,8] [3,3,3]=true:=by kernel_rfl
theorem sp_355n:spNode [2,3,5,6] [3,5,5]=true:=by kernel_rfl
theorem sp_53n:spNode [2,3,5,6,7] [5,3]=true:=by kernel_rfl
theorem sp_553n:spNode [2,3,5,6] [5,5,3]=true:=by kernel_rfl
theorem sp_63n:spNode [2,3,5,6] [6,3]=true:=by kernel_rfl
end Go.Proofs.YtcjpeijiaojeiaaGreat
