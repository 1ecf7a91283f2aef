/- DeskCloses on typed data: 4 operations done. -/
import Derived.Test.YtcjpeijiaojeiaaGreatLc
namespace Go.Proofs.YtcjpeijiaojeiaaGreat
open Go Go.Ev
set_option maxRecDepth 100000
theorem closes_40:closesRow 4 0=true:=by kernel_rfl
theorem closes_41:closesRow 4 1=true:=by kernel_rfl
theorem closes_42:closesRow 4 2=true:=by kernel_rfl
theorem closes_43:closesRow 4 3=true:=by kernel_rfl
theorem closes_44:closesRow 4 4=true:=by kernel_rfl
theorem closes_45:closesRow 4 5=true:=by kernel_rfl
theorem closes_46:closesRow 4 6=true:=by kernel_rfl
theorem closes_4:closesAt 4=true:=by unfold closesAt;exact List.all_eq_true.2 fun n hn=>match n,List.mem_range.1 hn with | 0,_=>closes_40 | 1,_=>closes_41 | 2,_=>closes_42 | 3,_=>closes_43 | 4,_=>closes_44 | 5,_=>closes_45 | 6,_=>closes_46 | n+7,h=>absurd h (by omega)
end Go.Proofs.YtcjpeijiaojeiaaGreat
