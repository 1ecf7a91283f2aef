/- DeskCloses on typed data: 3 operations done. -/
import Derived.Test.YtcjpeijiaojeiaaGreatLc
namespace Go.Proofs.YtcjpeijiaojeiaaGreat
open Go Go.Ev
set_option maxRecDepth 100000
theorem closes_30:closesRow 3 0=true:=by kernel_rfl
theorem closes_31:closesRow 3 1=true:=by kernel_rfl
theorem closes_32:closesRow 3 2=true:=by kernel_rfl
theorem closes_33:closesRow 3 3=true:=by kernel_rfl
theorem closes_34:closesRow 3 4=true:=by kernel_rfl
theorem closes_35:closesRow 3 5=true:=by kernel_rfl
theorem closes_36:closesRow 3 6=true:=by kernel_rfl
theorem closes_3:closesAt 3=true:=by unfold closesAt;exact List.all_eq_true.2 fun n hn=>match n,List.mem_range.1 hn with | 0,_=>closes_30 | 1,_=>closes_31 | 2,_=>closes_32 | 3,_=>closes_33 | 4,_=>closes_34 | 5,_=>closes_35 | 6,_=>closes_36 | n+7,h=>absurd h (by omega)
end Go.Proofs.YtcjpeijiaojeiaaGreat
