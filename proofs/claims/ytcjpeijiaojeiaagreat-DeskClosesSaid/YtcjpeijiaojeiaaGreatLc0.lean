/- DeskCloses on typed data: 0 operations done. -/
import Derived.Test.YtcjpeijiaojeiaaGreatLc
namespace Go.Proofs.YtcjpeijiaojeiaaGreat
open Go Go.Ev
set_option maxRecDepth 100000
theorem closes_00:closesRow 0 0=true:=by kernel_rfl
theorem closes_01:closesRow 0 1=true:=by kernel_rfl
theorem closes_02:closesRow 0 2=true:=by kernel_rfl
theorem closes_03:closesRow 0 3=true:=by kernel_rfl
theorem closes_04:closesRow 0 4=true:=by kernel_rfl
theorem closes_05:closesRow 0 5=true:=by kernel_rfl
theorem closes_06:closesRow 0 6=true:=by kernel_rfl
theorem closes_0:closesAt 0=true:=by unfold closesAt;exact List.all_eq_true.2 fun n hn=>match n,List.mem_range.1 hn with | 0,_=>closes_00 | 1,_=>closes_01 | 2,_=>closes_02 | 3,_=>closes_03 | 4,_=>closes_04 | 5,_=>closes_05 | 6,_=>closes_06 | n+7,h=>absurd h (by omega)
end Go.Proofs.YtcjpeijiaojeiaaGreat
