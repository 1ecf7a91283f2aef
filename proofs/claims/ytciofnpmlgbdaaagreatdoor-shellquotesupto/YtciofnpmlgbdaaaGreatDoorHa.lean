/- Contracts that are proved elsewhere. -/
import Derived.Test.YtciofnpmlgbdaaaGreatDoorFn
import Derived.Test.YtciofnpmlgbdaaaGreatDoorEd
import Derived.Test.YtciofnpmlgbdaaaGreatDoorLk
import Derived.Test.YtciofnpmlgbdaaaGreatDoorIb
namespace Go.Proofs.YtciofnpmlgbdaaaGreatDoor
open Go Go.Ev
theorem enters5:Enters Tryz.prog 5:=enters_of Tryz.func5 (by kernel_rfl) (c:=bod Tryz.f5.body) rfl
end Go.Proofs.YtciofnpmlgbdaaaGreatDoor
