/- The law WorldReclaims: what is waited (12). -/
import Derived.Test.YtnfojfamiieieaaGreatXs
namespace Go.Proofs.YtnfojfamiieieaaGreat
open Go Go.Cx Go.RowKit

set_option maxRecDepth 1000000 in
theorem l_g36 : (linS 3 1 30 2 0 X3 S = true) ∧ (endL 1 30 39 false S = true) ∧ (endL 1 30 40 true S = true) ∧ (linS 3 1 30 2 0 X3 S = true) ∧ (endL 1 30 40 false S = true) := ⟨by kernel_rfl, by kernel_rfl, by kernel_rfl, by kernel_rfl, by kernel_rfl⟩
theorem f39_s : linS 3 1 30 2 0 X3 S = true := l_g36.1
theorem f39 : endL 1 30 39 false S = true := l_g36.2.1
theorem d40 : endL 1 30 40 true S = true := l_g36.2.2.1
theorem f40_s : linS 3 1 30 2 0 X3 S = true := l_g36.2.2.2.1
theorem f40 : endL 1 30 40 false S = true := l_g36.2.2.2.2
set_option maxRecDepth 1000000 in
theorem l_g37 : (endL 1 30 41 true S = true) ∧ (linS 3 1 30 2 0 X3 S = true) ∧ (endL 1 30 41 false S = true) ∧ (endL 1 30 42 true S = true) := ⟨by kernel_rfl, by kernel_rfl, by kernel_rfl, by kernel_rfl⟩
theorem d41 : endL 1 30 41 true S = true := l_g37.1
theorem f41_s : linS 3 1 30 2 0 X3 S = true := l_g37.2.1
theorem f41 : endL 1 30 41 false S = true := l_g37.2.2.1
theorem d42 : endL 1 30 42 true S = true := l_g37.2.2.2
set_option maxRecDepth 1000000 in
theorem l_g38 : (linS 3 1 30 2 0 X3 S = true) ∧ (endL 1 30 42 false S = true) ∧ (endL 1 30 43 true S = true) ∧ (linS 3 1 30 2 0 X3 S = true) ∧ (endL 1 30 43 false S = true) := ⟨by kernel_rfl, by kernel_rfl, by kernel_rfl, by kernel_rfl, by kernel_rfl⟩
theorem f42_s : linS 3 1 30 2 0 X3 S = true := l_g38.1
theorem f42 : endL 1 30 42 false S = true := l_g38.2.1
theorem d43 : endL 1 30 43 true S = true := l_g38.2.2.1
theorem f43_s : linS 3 1 30 2 0 X3 S = true := l_g38.2.2.2.1
theorem f43 : endL 1 30 43 false S = true := l_g38.2.2.2.2

end Go.Proofs.YtnfojfamiieieaaGreat
