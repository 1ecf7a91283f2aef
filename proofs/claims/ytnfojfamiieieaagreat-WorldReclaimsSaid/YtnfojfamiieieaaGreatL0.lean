/- The law WorldReclaims: what is waited (0). -/
import Derived.Test.YtnfojfamiieieaaGreatXs
namespace Go.Proofs.YtnfojfamiieieaaGreat
open Go Go.Cx Go.RowKit

set_option maxRecDepth 1000000 in
theorem l_g0 : (endL 1 30 0 true S = true) ∧ (linS 3 1 30 2 0 X3 S = true) ∧ (endL 1 30 0 false S = true) ∧ (endL 1 30 1 true S = true) := ⟨by kernel_rfl, by kernel_rfl, by kernel_rfl, by kernel_rfl⟩
theorem d0 : endL 1 30 0 true S = true := l_g0.1
theorem e0_s : linS 3 1 30 2 0 X3 S = true := l_g0.2.1
theorem e0 : endL 1 30 0 false S = true := l_g0.2.2.1
theorem d1 : endL 1 30 1 true S = true := l_g0.2.2.2
set_option maxRecDepth 1000000 in
theorem l_g1 : (linS 3 1 30 2 0 X3 S = true) ∧ (endL 1 30 1 false S = true) ∧ (endL 1 30 2 true S = true) ∧ (linS 3 1 30 2 0 X3 S = true) ∧ (endL 1 30 2 false S = true) := ⟨by kernel_rfl, by kernel_rfl, by kernel_rfl, by kernel_rfl, by kernel_rfl⟩
theorem e1_s : linS 3 1 30 2 0 X3 S = true := l_g1.1
theorem e1 : endL 1 30 1 false S = true := l_g1.2.1
theorem d2 : endL 1 30 2 true S = true := l_g1.2.2.1
theorem e2_s : linS 3 1 30 2 0 X3 S = true := l_g1.2.2.2.1
theorem e2 : endL 1 30 2 false S = true := l_g1.2.2.2.2
set_option maxRecDepth 1000000 in
theorem l_g2 : (endL 1 30 3 true S = true) ∧ (linS 3 1 30 2 0 X3 S = true) ∧ (endL 1 30 3 false S = true) ∧ (endL 1 30 4 true S = true) := ⟨by kernel_rfl, by kernel_rfl, by kernel_rfl, by kernel_rfl⟩
theorem d3 : endL 1 30 3 true S = true := l_g2.1
theorem e3_s : linS 3 1 30 2 0 X3 S = true := l_g2.2.1
theorem e3 : endL 1 30 3 false S = true := l_g2.2.2.1
theorem d4 : endL 1 30 4 true S = true := l_g2.2.2.2

end Go.Proofs.YtnfojfamiieieaaGreat
