/- DeskCloses on typed data: 2 operations done. -/
import Derived.Test.YtcjpeijiaojeiaaGreatLc
namespace Go.Proofs.YtcjpeijiaojeiaaGreat
open Go Go.Ev
set_option maxRecDepth 100000
theorem closes_20:closesRow 2 0=true:=by kernel_rfl
theorem closes_21:closesRow 2 1=true:=by kernel_rfl
theorem closes_22:closesRow 2 2=true:=by kernel_rfl
theorem closes_23:closesRow 2 3=true:=by kernel_rfl
theorem closes_24:closesRow 2 4=true:=by kernel_rfl
theorem closes_25:closesRow 2 5=true:=by kernel_rfl
theorem closes_26:closesRow 2 6=true:=by kernel_rfl
theorem closes_2:closesAt 2=true:=by unfold closesAt;exact List.all_eq_true.2 fun n hn=>match n,List.mem_range.1 hn with | 0,_=>closes_20 | 1,_=>closes_21 | 2,_=>closes_22 | 3,_=>closes_23 | 4,_=>closes_24 | 5,_=>closes_25 | 6,_=>closes_26 | n+7,h=>absurd h (by omega)
end Go.Proofs.YtcjpeijiaojeiaaGreat
