/- The law WorldReclaims: what is waited (13). -/
import Derived.Test.YtnfojfamiieieaaGreatXs
namespace Go.Proofs.YtnfojfamiieieaaGreat
open Go Go.Cx Go.RowKit

set_option maxRecDepth 1000000 in
theorem l_g39 : (endL 1 30 44 true S = true) ∧ (linS 3 1 30 2 0 X3 S = true) ∧ (endL 1 30 44 false S = true) := ⟨by kernel_rfl, by kernel_rfl, by kernel_rfl⟩
theorem d44 : endL 1 30 44 true S = true := l_g39.1
theorem f44_s : linS 3 1 30 2 0 X3 S = true := l_g39.2.1
theorem f44 : endL 1 30 44 false S = true := l_g39.2.2

end Go.Proofs.YtnfojfamiieieaaGreat
