/- The law WorldReclaims: what is waited (6). -/
import Derived.Test.YtnfojfamiieieaaGreatXs
namespace Go.Proofs.YtnfojfamiieieaaGreat
open Go Go.Cx Go.RowKit

set_option maxRecDepth 1000000 in
theorem l_g18 : (endL 1 30 20 true S = true) ∧ (linS 3 16 30 2 0 X3 S = true) ∧ (endL 16 30 20 false S = true) ∧ (linS 3 1 15 2 0 X3 S = true) ∧ (endL 1 15 20 false S = true) := ⟨by kernel_rfl, by kernel_rfl, by kernel_rfl, by kernel_rfl, by kernel_rfl⟩
theorem d20 : endL 1 30 20 true S = true := l_g18.1
theorem e20_s : linS 3 16 30 2 0 X3 S = true := l_g18.2.1
theorem e20 : endL 16 30 20 false S = true := l_g18.2.2.1
theorem f20_s : linS 3 1 15 2 0 X3 S = true := l_g18.2.2.2.1
theorem f20 : endL 1 15 20 false S = true := l_g18.2.2.2.2
set_option maxRecDepth 1000000 in
theorem l_g19 : (endL 1 30 21 true S = true) ∧ (linS 3 17 30 2 0 X3 S = true) ∧ (endL 17 30 21 false S = true) ∧ (linS 3 1 16 2 0 X3 S = true) ∧ (endL 1 16 21 false S = true) := ⟨by kernel_rfl, by kernel_rfl, by kernel_rfl, by kernel_rfl, by kernel_rfl⟩
theorem d21 : endL 1 30 21 true S = true := l_g19.1
theorem e21_s : linS 3 17 30 2 0 X3 S = true := l_g19.2.1
theorem e21 : endL 17 30 21 false S = true := l_g19.2.2.1
theorem f21_s : linS 3 1 16 2 0 X3 S = true := l_g19.2.2.2.1
theorem f21 : endL 1 16 21 false S = true := l_g19.2.2.2.2
set_option maxRecDepth 1000000 in
theorem l_g20 : (endL 1 30 22 true S = true) ∧ (linS 3 18 30 2 0 X3 S = true) ∧ (endL 18 30 22 false S = true) ∧ (linS 3 1 17 2 0 X3 S = true) ∧ (endL 1 17 22 false S = true) := ⟨by kernel_rfl, by kernel_rfl, by kernel_rfl, by kernel_rfl, by kernel_rfl⟩
theorem d22 : endL 1 30 22 true S = true := l_g20.1
theorem e22_s : linS 3 18 30 2 0 X3 S = true := l_g20.2.1
theorem e22 : endL 18 30 22 false S = true := l_g20.2.2.1
theorem f22_s : linS 3 1 17 2 0 X3 S = true := l_g20.2.2.2.1
theorem f22 : endL 1 17 22 false S = true := l_g20.2.2.2.2

end Go.Proofs.YtnfojfamiieieaaGreat
