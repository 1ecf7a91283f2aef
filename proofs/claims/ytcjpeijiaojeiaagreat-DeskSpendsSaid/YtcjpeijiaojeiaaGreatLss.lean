/- DeskSpends on typed data. -/
import Derived.Test.YtcjpeijiaojeiaaGreatLs0
import Derived.Test.YtcjpeijiaojeiaaGreatLs1
import Derived.Test.YtcjpeijiaojeiaaGreatLs2
import Derived.Test.YtcjpeijiaojeiaaGreatLs3
namespace Go.Proofs.YtcjpeijiaojeiaaGreat
open Go Go.Ev
set_option maxRecDepth 100000
theorem sp_1:spChk 4 [1]=true:=spChk_of sp_1n (all_cons (spChk_le (by decide) sp_15) (all_cons (spChk_le (by decide) sp_16) (all_cons (spChk_le (by decide) sp_17) (all_cons (spChk_le (by decide) sp_18) (all_nil)))))
theorem sp_23:spChk 4 [2,3]=true:=spChk_of sp_23n (all_cons (spChk_le (by decide) sp_235) (all_cons (spChk_le (by decide) sp_236) (all_cons (spChk_le (by decide) sp_237) (all_cons (spChk_le (by decide) sp_238) (all_nil)))))
theorem sp_25:spChk 4 [2,5]=true:=spChk_of sp_25n (all_cons (spChk_le (by decide) sp_253) (all_cons (spChk_le (by decide) sp_255) (all_cons (spChk_le (by decide) sp_256) (all_cons (spChk_le (by decide) sp_257) (all_nil)))))
theorem sp_2:spChk 5 [2]=true:=spChk_of sp_2n (all_cons (spChk_le (by decide) sp_23) (all_cons (spChk_le (by decide) sp_25) (all_cons (spChk_le (by decide) sp_26) (all_cons (spChk_le (by decide) sp_27) (all_cons (spChk_le (by decide) sp_28) (all_nil))))))
theorem sp_32:spChk 4 [3,2]=true:=spChk_of sp_32n (all_cons (spChk_le (by decide) sp_325) (all_cons (spChk_le (by decide) sp_326) (all_cons (spChk_le (by decide) sp_327) (all_cons (spChk_le (by decide) sp_328) (all_nil)))))
theorem sp_333:spChk 4 [3,3,3]=true:=spChk_of sp_333n (all_cons (spChk_le (by decide) sp_3335) (all_cons (spChk_le (by decide) sp_3336) (all_cons (spChk_le (by decide) sp_3337) (all_cons (spChk_le (by decide) sp_3338) (all_nil)))))
theorem sp_335:spChk 4 [3,3,5]=true:=spChk_of sp_335n (all_cons (spChk_le (by decide) sp_3353) (all_cons (spChk_le (by decide) sp_3355) (all_cons (spChk_le (by decide) sp_3356) (all_cons (spChk_le (by decide) sp_3357) (all_nil)))))
theorem sp_33:spChk 5 [3,3]=true:=spChk_of sp_33n (all_cons (spChk_le (by decide) sp_333) (all_cons (spChk_le (by decide) sp_335) (all_cons (spChk_le (by decide) sp_336) (all_cons (spChk_le (by decide) sp_337) (all_cons (spChk_le (by decide) sp_338) (all_nil))))))
theorem sp_353:spChk 4 [3,5,3]=true:=spChk_of sp_353n (all_cons (spChk_le (by decide) sp_3533) (all_cons (spChk_le (by decide) sp_3535) (all_cons (spChk_le (by decide) sp_3536) (all_cons (spChk_le (by decide) sp_3537) (all_nil)))))
theorem sp_355:spChk 4 [3,5,5]=true:=spChk_of sp_355n (all_cons (spChk_le (by decide) sp_3552) (all_cons (spChk_le (by decide) sp_3553) (all_cons (spChk_le (by decide) sp_3555) (all_cons (spChk_le (by decide) sp_3556) (all_nil)))))
theorem sp_35:spChk 5 [3,5]=true:=spChk_of sp_35n (all_cons (spChk_le (by decide) sp_352) (all_cons (spChk_le (by decide) sp_353) (all_cons (spChk_le (by decide) sp_355) (all_cons (spChk_le (by decide) sp_356) (all_cons (spChk_le (by decide) sp_357) (all_nil))))))
theorem sp_36:spChk 4 [3,6]=true:=spChk_of sp_36n (all_cons (spChk_le (by decide) sp_362) (all_cons (spChk_le (by decide) sp_363) (all_cons (spChk_le (by decide) sp_365) (all_cons (spChk_le (by decide) sp_366) (all_nil)))))
theorem sp_3:spChk 6 [3]=true:=spChk_of sp_3n (all_cons (spChk_le (by decide) sp_32) (all_cons (spChk_le (by decide) sp_33) (all_cons (spChk_le (by decide) sp_35) (all_cons (spChk_le (by decide) sp_36) (all_cons (spChk_le (by decide) sp_37) (all_cons (spChk_le (by decide) sp_38) (all_nil)))))))
theorem sp_52:spChk 4 [5,2]=true:=spChk_of sp_52n (all_cons (spChk_le (by decide) sp_523) (all_cons (spChk_le (by decide) sp_525) (all_cons (spChk_le (by decide) sp_526) (all_cons (spChk_le (by decide) sp_527) (all_nil)))))
theorem sp_533:spChk 4 [5,3,3]=true:=spChk_of sp_533n (all_cons (spChk_le (by decide) sp_5333) (all_cons (spChk_le (by decide) sp_5335) (all_cons (spChk_le (by decide) sp_5336) (all_cons (spChk_le (by decide) sp_5337) (all_nil)))))
theorem sp_535:spChk 4 [5,3,5]=true:=spChk_of sp_535n (all_cons (spChk_le (by decide) sp_5352) (all_cons (spChk_le (by decide) sp_5353) (all_cons (spChk_le (by decide) sp_5355) (all_cons (spChk_le (by decide) sp_5356) (all_nil)))))
theorem sp_53:spChk 5 [5,3]=true:=spChk_of sp_53n (all_cons (spChk_le (by decide) sp_532) (all_cons (spChk_le (by decide) sp_533) (all_cons (spChk_le (by decide) sp_535) (all_cons (spChk_le (by decide) sp_536) (all_cons (spChk_le (by decide) sp_537) (all_nil))))))
theorem sp_553:spChk 4 [5,5,3]=true:=spChk_of sp_553n (all_cons (spChk_le (by decide) sp_5532) (all_cons (spChk_le (by decide) sp_5533) (all_cons (spChk_le (by decide) sp_5535) (all_cons (spChk_le (by decide) sp_5536) (all_nil)))))
theorem sp_555:spChk 4 [5,5,5]=true:=spChk_of sp_555n (all_cons (spChk_le (by decide) sp_5551) (all_cons (spChk_le (by decide) sp_5552) (all_cons (spChk_le (by decide) sp_5553) (all_cons (spChk_le (by decide) sp_5555) (all_nil)))))
theorem sp_55:spChk 5 [5,5]=true:=spChk_of sp_55n (all_cons (spChk_le (by decide) sp_551) (all_cons (spChk_le (by decide) sp_552) (all_cons (spChk_le (by decide) sp_553) (all_cons (spChk_le (by decide) sp_555) (all_cons (spChk_le (by decide) sp_556) (all_nil))))))
theorem sp_56:spChk 4 [5,6]=true:=spChk_of sp_56n (all_cons (spChk_le (by decide) sp_561) (all_cons (spChk_le (by decide) sp_562) (all_cons (spChk_le (by decide) sp_563) (all_cons (spChk_le (by decide) sp_565) (all_nil)))))
theorem sp_5:spChk 6 [5]=true:=spChk_of sp_5n (all_cons (spChk_le (by decide) sp_51) (all_cons (spChk_le (by decide) sp_52) (all_cons (spChk_le (by decide) sp_53) (all_cons (spChk_le (by decide) sp_55) (all_cons (spChk_le (by decide) sp_56) (all_cons (spChk_le (by decide) sp_57) (all_nil)))))))
theorem sp_63:spChk 4 [6,3]=true:=spChk_of sp_63n (all_cons (spChk_le (by decide) sp_632) (all_cons (spChk_le (by decide) sp_633) (all_cons (spChk_le (by decide) sp_635) (all_cons (spChk_le (by decide) sp_636) (all_nil)))))
theorem sp_65:spChk 4 [6,5]=true:=spChk_of sp_65n (all_cons (spChk_le (by decide) sp_651) (all_cons (spChk_le (by decide) sp_652) (all_cons (spChk_le (by decide) sp_653) (all_cons (spChk_le (by decide) sp_655) (all_nil)))))
theorem sp_6:spChk 5 [6]=true:=spChk_of sp_6n (all_cons (spChk_le (by decide) sp_61) (all_cons (spChk_le (by decide) sp_62) (all_cons (spChk_le (by decide) sp_63) (all_cons (spChk_le (by decide) sp_65) (all_cons (spChk_le (by decide) sp_66) (all_nil))))))
theorem sp_7:spChk 4 [7]=true:=spChk_of sp_7n (all_cons (spChk_le (by decide) sp_71) (all_cons (spChk_le (by decide) sp_72) (all_cons (spChk_le (by decide) sp_73) (all_cons (spChk_le (by decide) sp_75) (all_nil)))))
theorem sp_:spChk 7 []=true:=spChk_of sp_n (all_cons (spChk_le (by decide) sp_1) (all_cons (spChk_le (by decide) sp_2) (all_cons (spChk_le (by decide) sp_3) (all_cons (spChk_le (by decide) sp_5) (all_cons (spChk_le (by decide) sp_6) (all_cons (spChk_le (by decide) sp_7) (all_cons (spChk_le (by decide) sp_8) (all_nil))))))))
theorem deskSpends_true (l:List Int):deskSpends l=some true:=deskSpends_of sp_ l
end Go.Proofs.YtcjpeijiaojeiaaGreat
