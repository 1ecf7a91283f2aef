/- The law WorldReclaims: what is waited (5). -/
import Derived.Test.YtnfojfamiieieaaGreatXs
namespace Go.Proofs.YtnfojfamiieieaaGreat
open Go Go.Cx Go.RowKit

set_option maxRecDepth 1000000 in
theorem l_g15 : (endL 1 30 17 true S = true) ∧ (linS 3 13 30 2 0 X3 S = true) ∧ (endL 13 30 17 false S = true) ∧ (linS 3 1 12 2 0 X3 S = true) ∧ (endL 1 12 17 false S = true) := ⟨by kernel_rfl, by kernel_rfl, by kernel_rfl, by kernel_rfl, by kernel_rfl⟩
theorem d17 : endL 1 30 17 true S = true := l_g15.1
theorem e17_s : linS 3 13 30 2 0 X3 S = true := l_g15.2.1
theorem e17 : endL 13 30 17 false S = true := l_g15.2.2.1
theorem f17_s : linS 3 1 12 2 0 X3 S = true := l_g15.2.2.2.1
theorem f17 : endL 1 12 17 false S = true := l_g15.2.2.2.2
set_option maxRecDepth 1000000 in
theorem l_g16 : (endL 1 30 18 true S = true) ∧ (linS 3 14 30 2 0 X3 S = true) ∧ (endL 14 30 18 false S = true) ∧ (linS 3 1 13 2 0 X3 S = true) ∧ (endL 1 13 18 false S = true) := ⟨by kernel_rfl, by kernel_rfl, by kernel_rfl, by kernel_rfl, by kernel_rfl⟩
theorem d18 : endL 1 30 18 true S = true := l_g16.1
theorem e18_s : linS 3 14 30 2 0 X3 S = true := l_g16.2.1
theorem e18 : endL 14 30 18 false S = true := l_g16.2.2.1
theorem f18_s : linS 3 1 13 2 0 X3 S = true := l_g16.2.2.2.1
theorem f18 : endL 1 13 18 false S = true := l_g16.2.2.2.2
set_option maxRecDepth 1000000 in
theorem l_g17 : (endL 1 30 19 true S = true) ∧ (linS 3 15 30 2 0 X3 S = true) ∧ (endL 15 30 19 false S = true) ∧ (linS 3 1 14 2 0 X3 S = true) ∧ (endL 1 14 19 false S = true) := ⟨by kernel_rfl, by kernel_rfl, by kernel_rfl, by kernel_rfl, by kernel_rfl⟩
theorem d19 : endL 1 30 19 true S = true := l_g17.1
theorem e19_s : linS 3 15 30 2 0 X3 S = true := l_g17.2.1
theorem e19 : endL 15 30 19 false S = true := l_g17.2.2.1
theorem f19_s : linS 3 1 14 2 0 X3 S = true := l_g17.2.2.2.1
theorem f19 : endL 1 14 19 false S = true := l_g17.2.2.2.2

end Go.Proofs.YtnfojfamiieieaaGreat
