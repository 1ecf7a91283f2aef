/- Worlds: all that is known of calls. -/
import Derived.Test.YtoignhfhljlnbaaGreatDoorWo
import Derived.Test.YtoignhfhljlnbaaGreatDoorRc
import Derived.Test.YtoignhfhljlnbaaGreatDoorJn
import Derived.Test.YtoignhfhljlnbaaGreatDoorKc
namespace Go.Proofs.YtoignhfhljlnbaaGreatDoor
open Go Go.Cx Go.RowKit

noncomputable def deskR : FuncId → List Value → W → Option Re := orc2 deskO (orc2 reachR (orcJoin 206))
theorem deskR_ok {gB : Gh} {wB : World} : OrcOkH Tryz.prog gB wB deskR := orc2_ok deskO_ok (orc2_ok reachR_ok (orcJoin_ok join_calls))

end Go.Proofs.YtoignhfhljlnbaaGreatDoor
