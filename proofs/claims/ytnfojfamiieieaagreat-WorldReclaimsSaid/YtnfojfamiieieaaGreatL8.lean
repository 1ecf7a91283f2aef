/- The law WorldReclaims: what is waited (8). -/
import Derived.Test.YtnfojfamiieieaaGreatXs
namespace Go.Proofs.YtnfojfamiieieaaGreat
open Go Go.Cx Go.RowKit

set_option maxRecDepth 1000000 in
theorem l_g24 : (endL 1 30 26 true S = true) ∧ (linS 3 22 30 2 0 X3 S = true) ∧ (endL 22 30 26 false S = true) ∧ (linS 3 1 21 2 0 X3 S = true) ∧ (endL 1 21 26 false S = true) := ⟨by kernel_rfl, by kernel_rfl, by kernel_rfl, by kernel_rfl, by kernel_rfl⟩
theorem d26 : endL 1 30 26 true S = true := l_g24.1
theorem e26_s : linS 3 22 30 2 0 X3 S = true := l_g24.2.1
theorem e26 : endL 22 30 26 false S = true := l_g24.2.2.1
theorem f26_s : linS 3 1 21 2 0 X3 S = true := l_g24.2.2.2.1
theorem f26 : endL 1 21 26 false S = true := l_g24.2.2.2.2
set_option maxRecDepth 1000000 in
theorem l_g25 : (endL 1 30 27 true S = true) ∧ (linS 3 23 30 2 0 X3 S = true) ∧ (endL 23 30 27 false S = true) ∧ (linS 3 1 22 2 0 X3 S = true) ∧ (endL 1 22 27 false S = true) := ⟨by kernel_rfl, by kernel_rfl, by kernel_rfl, by kernel_rfl, by kernel_rfl⟩
theorem d27 : endL 1 30 27 true S = true := l_g25.1
theorem e27_s : linS 3 23 30 2 0 X3 S = true := l_g25.2.1
theorem e27 : endL 23 30 27 false S = true := l_g25.2.2.1
theorem f27_s : linS 3 1 22 2 0 X3 S = true := l_g25.2.2.2.1
theorem f27 : endL 1 22 27 false S = true := l_g25.2.2.2.2
set_option maxRecDepth 1000000 in
theorem l_g26 : (endL 1 30 28 true S = true) ∧ (linS 3 24 30 2 0 X3 S = true) ∧ (endL 24 30 28 false S = true) ∧ (linS 3 1 23 2 0 X3 S = true) ∧ (endL 1 23 28 false S = true) := ⟨by kernel_rfl, by kernel_rfl, by kernel_rfl, by kernel_rfl, by kernel_rfl⟩
theorem d28 : endL 1 30 28 true S = true := l_g26.1
theorem e28_s : linS 3 24 30 2 0 X3 S = true := l_g26.2.1
theorem e28 : endL 24 30 28 false S = true := l_g26.2.2.1
theorem f28_s : linS 3 1 23 2 0 X3 S = true := l_g26.2.2.2.1
theorem f28 : endL 1 23 28 false S = true := l_g26.2.2.2.2

end Go.Proofs.YtnfojfamiieieaaGreat
