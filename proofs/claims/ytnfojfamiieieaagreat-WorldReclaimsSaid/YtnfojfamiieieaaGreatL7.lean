/- The law WorldReclaims: what is waited (7). -/
import Derived.Test.YtnfojfamiieieaaGreatXs
namespace Go.Proofs.YtnfojfamiieieaaGreat
open Go Go.Cx Go.RowKit

set_option maxRecDepth 1000000 in
theorem l_g21 : (endL 1 30 23 true S = true) ∧ (linS 3 19 30 2 0 X3 S = true) ∧ (endL 19 30 23 false S = true) ∧ (linS 3 1 18 2 0 X3 S = true) ∧ (endL 1 18 23 false S = true) := ⟨by kernel_rfl, by kernel_rfl, by kernel_rfl, by kernel_rfl, by kernel_rfl⟩
theorem d23 : endL 1 30 23 true S = true := l_g21.1
theorem e23_s : linS 3 19 30 2 0 X3 S = true := l_g21.2.1
theorem e23 : endL 19 30 23 false S = true := l_g21.2.2.1
theorem f23_s : linS 3 1 18 2 0 X3 S = true := l_g21.2.2.2.1
theorem f23 : endL 1 18 23 false S = true := l_g21.2.2.2.2
set_option maxRecDepth 1000000 in
theorem l_g22 : (endL 1 30 24 true S = true) ∧ (linS 3 20 30 2 0 X3 S = true) ∧ (endL 20 30 24 false S = true) ∧ (linS 3 1 19 2 0 X3 S = true) ∧ (endL 1 19 24 false S = true) := ⟨by kernel_rfl, by kernel_rfl, by kernel_rfl, by kernel_rfl, by kernel_rfl⟩
theorem d24 : endL 1 30 24 true S = true := l_g22.1
theorem e24_s : linS 3 20 30 2 0 X3 S = true := l_g22.2.1
theorem e24 : endL 20 30 24 false S = true := l_g22.2.2.1
theorem f24_s : linS 3 1 19 2 0 X3 S = true := l_g22.2.2.2.1
theorem f24 : endL 1 19 24 false S = true := l_g22.2.2.2.2
set_option maxRecDepth 1000000 in
theorem l_g23 : (endL 1 30 25 true S = true) ∧ (linS 3 21 30 2 0 X3 S = true) ∧ (endL 21 30 25 false S = true) ∧ (linS 3 1 20 2 0 X3 S = true) ∧ (endL 1 20 25 false S = true) := ⟨by kernel_rfl, by kernel_rfl, by kernel_rfl, by kernel_rfl, by kernel_rfl⟩
theorem d25 : endL 1 30 25 true S = true := l_g23.1
theorem e25_s : linS 3 21 30 2 0 X3 S = true := l_g23.2.1
theorem e25 : endL 21 30 25 false S = true := l_g23.2.2.1
theorem f25_s : linS 3 1 20 2 0 X3 S = true := l_g23.2.2.2.1
theorem f25 : endL 1 20 25 false S = true := l_g23.2.2.2.2

end Go.Proofs.YtnfojfamiieieaaGreat
