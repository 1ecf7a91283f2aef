/- DeskCloses on typed data: 1 operations done. -/
import Derived.Test.YtcjpeijiaojeiaaGreatLc
namespace Go.Proofs.YtcjpeijiaojeiaaGreat
open Go Go.Ev
set_option maxRecDepth 100000
theorem closes_10:closesRow 1 0=true:=by kernel_rfl
theorem closes_11:closesRow 1 1=true:=by kernel_rfl
theorem closes_12:closesRow 1 2=true:=by kernel_rfl
theorem closes_13:closesRow 1 3=true:=by kernel_rfl
theorem closes_14:closesRow 1 4=true:=by kernel_rfl
theorem closes_15:closesRow 1 5=true:=by kernel_rfl
theorem closes_16:closesRow 1 6=true:=by kernel_rfl
theorem closes_1:closesAt 1=true:=by unfold closesAt;exact List.all_eq_true.2 fun n hn=>match n,List.mem_range.1 hn with | 0,_=>closes_10 | 1,_=>closes_11 | 2,_=>closes_12 | 3,_=>closes_13 | 4,_=>closes_14 | 5,_=>closes_15 | 6,_=>closes_16 | n+7,h=>absurd h (by omega)
end Go.Proofs.YtcjpeijiaojeiaaGreat
