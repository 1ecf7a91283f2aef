/- The law WorldReclaims: what is waited (9). -/
import Derived.Test.YtnfojfamiieieaaGreatXs
namespace Go.Proofs.YtnfojfamiieieaaGreat
open Go Go.Cx Go.RowKit

set_option maxRecDepth 1000000 in
theorem l_g27 : (endL 1 30 29 true S = true) ∧ (linS 3 25 30 2 0 X3 S = true) ∧ (endL 25 30 29 false S = true) ∧ (linS 3 1 24 2 0 X3 S = true) ∧ (endL 1 24 29 false S = true) := ⟨by kernel_rfl, by kernel_rfl, by kernel_rfl, by kernel_rfl, by kernel_rfl⟩
theorem d29 : endL 1 30 29 true S = true := l_g27.1
theorem e29_s : linS 3 25 30 2 0 X3 S = true := l_g27.2.1
theorem e29 : endL 25 30 29 false S = true := l_g27.2.2.1
theorem f29_s : linS 3 1 24 2 0 X3 S = true := l_g27.2.2.2.1
theorem f29 : endL 1 24 29 false S = true := l_g27.2.2.2.2
set_option maxRecDepth 1000000 in
theorem l_g28 : (endL 1 30 30 true S = true) ∧ (linS 3 26 30 2 0 X3 S = true) ∧ (endL 26 30 30 false S = true) ∧ (linS 3 1 25 2 0 X3 S = true) ∧ (endL 1 25 30 false S = true) := ⟨by kernel_rfl, by kernel_rfl, by kernel_rfl, by kernel_rfl, by kernel_rfl⟩
theorem d30 : endL 1 30 30 true S = true := l_g28.1
theorem e30_s : linS 3 26 30 2 0 X3 S = true := l_g28.2.1
theorem e30 : endL 26 30 30 false S = true := l_g28.2.2.1
theorem f30_s : linS 3 1 25 2 0 X3 S = true := l_g28.2.2.2.1
theorem f30 : endL 1 25 30 false S = true := l_g28.2.2.2.2
set_option maxRecDepth 1000000 in
theorem l_g29 : (endL 1 30 31 true S = true) ∧ (linS 3 27 30 2 0 X3 S = true) ∧ (endL 27 30 31 false S = true) ∧ (linS 3 1 26 2 0 X3 S = true) ∧ (endL 1 26 31 false S = true) := ⟨by kernel_rfl, by kernel_rfl, by kernel_rfl, by kernel_rfl, by kernel_rfl⟩
theorem d31 : endL 1 30 31 true S = true := l_g29.1
theorem e31_s : linS 3 27 30 2 0 X3 S = true := l_g29.2.1
theorem e31 : endL 27 30 31 false S = true := l_g29.2.2.1
theorem f31_s : linS 3 1 26 2 0 X3 S = true := l_g29.2.2.2.1
theorem f31 : endL 1 26 31 false S = true := l_g29.2.2.2.2

end Go.Proofs.YtnfojfamiieieaaGreat
