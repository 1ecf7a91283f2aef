/- The law WorldReclaims: what is waited (11). -/
import Derived.Test.YtnfojfamiieieaaGreatXs
namespace Go.Proofs.YtnfojfamiieieaaGreat
open Go Go.Cx Go.RowKit

set_option maxRecDepth 1000000 in
theorem l_g33 : (endL 1 30 35 true S = true) ∧ (linS 3 1 30 2 0 X3 S = true) ∧ (endL 1 30 35 false S = true) ∧ (endL 1 30 36 true S = true) := ⟨by kernel_rfl, by kernel_rfl, by kernel_rfl, by kernel_rfl⟩
theorem d35 : endL 1 30 35 true S = true := l_g33.1
theorem f35_s : linS 3 1 30 2 0 X3 S = true := l_g33.2.1
theorem f35 : endL 1 30 35 false S = true := l_g33.2.2.1
theorem d36 : endL 1 30 36 true S = true := l_g33.2.2.2
set_option maxRecDepth 1000000 in
theorem l_g34 : (linS 3 1 30 2 0 X3 S = true) ∧ (endL 1 30 36 false S = true) ∧ (endL 1 30 37 true S = true) ∧ (linS 3 1 30 2 0 X3 S = true) ∧ (endL 1 30 37 false S = true) := ⟨by kernel_rfl, by kernel_rfl, by kernel_rfl, by kernel_rfl, by kernel_rfl⟩
theorem f36_s : linS 3 1 30 2 0 X3 S = true := l_g34.1
theorem f36 : endL 1 30 36 false S = true := l_g34.2.1
theorem d37 : endL 1 30 37 true S = true := l_g34.2.2.1
theorem f37_s : linS 3 1 30 2 0 X3 S = true := l_g34.2.2.2.1
theorem f37 : endL 1 30 37 false S = true := l_g34.2.2.2.2
set_option maxRecDepth 1000000 in
theorem l_g35 : (endL 1 30 38 true S = true) ∧ (linS 3 1 30 2 0 X3 S = true) ∧ (endL 1 30 38 false S = true) ∧ (endL 1 30 39 true S = true) := ⟨by kernel_rfl, by kernel_rfl, by kernel_rfl, by kernel_rfl⟩
theorem d38 : endL 1 30 38 true S = true := l_g35.1
theorem f38_s : linS 3 1 30 2 0 X3 S = true := l_g35.2.1
theorem f38 : endL 1 30 38 false S = true := l_g35.2.2.1
theorem d39 : endL 1 30 39 true S = true := l_g35.2.2.2

end Go.Proofs.YtnfojfamiieieaaGreat
