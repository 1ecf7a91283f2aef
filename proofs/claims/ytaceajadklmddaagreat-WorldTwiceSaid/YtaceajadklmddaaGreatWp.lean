/- Worlds: all that is known of calls. -/
import Derived.Test.YtaceajadklmddaaGreatWo
import Derived.Test.YtaceajadklmddaaGreatRc
import Derived.Test.YtaceajadklmddaaGreatKc
namespace Go.Proofs.YtaceajadklmddaaGreat
open Go Go.Cx Go.RowKit

noncomputable def deskR : FuncId → List Value → W → Option Re := orc2 deskO reachR
theorem deskR_ok {gB : Gh} {wB : World} : OrcOkH Tryz.prog gB wB deskR := orc2_ok deskO_ok reachR_ok

end Go.Proofs.YtaceajadklmddaaGreat
