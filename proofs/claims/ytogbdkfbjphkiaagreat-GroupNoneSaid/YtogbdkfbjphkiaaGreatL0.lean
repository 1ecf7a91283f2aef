/- The law GroupNone: a look. -/
import Derived.Test.YtogbdkfbjphkiaaGreatLo
namespace Go.Proofs.YtogbdkfbjphkiaaGreat
open Go Go.Cx Go.RowKit

set_option maxRecDepth 1000000 in
theorem look_0 : isB true (evO Tryz.prog 100000 (orc true) 100 5 (args5 (.ofNat 0)) w02) = true := by kernel_rfl

end Go.Proofs.YtogbdkfbjphkiaaGreat
