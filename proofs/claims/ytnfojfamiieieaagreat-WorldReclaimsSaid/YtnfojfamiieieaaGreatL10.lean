/- The law WorldReclaims: what is waited (10). -/
import Derived.Test.YtnfojfamiieieaaGreatXs
namespace Go.Proofs.YtnfojfamiieieaaGreat
open Go Go.Cx Go.RowKit

set_option maxRecDepth 1000000 in
theorem l_g30 : (endL 1 30 32 true S = true) ∧ (linS 3 28 30 2 0 X3 S = true) ∧ (endL 28 30 32 false S = true) ∧ (linS 3 1 27 2 0 X3 S = true) ∧ (endL 1 27 32 false S = true) := ⟨by kernel_rfl, by kernel_rfl, by kernel_rfl, by kernel_rfl, by kernel_rfl⟩
theorem d32 : endL 1 30 32 true S = true := l_g30.1
theorem e32_s : linS 3 28 30 2 0 X3 S = true := l_g30.2.1
theorem e32 : endL 28 30 32 false S = true := l_g30.2.2.1
theorem f32_s : linS 3 1 27 2 0 X3 S = true := l_g30.2.2.2.1
theorem f32 : endL 1 27 32 false S = true := l_g30.2.2.2.2
set_option maxRecDepth 1000000 in
theorem l_g31 : (endL 1 30 33 true S = true) ∧ (linS 3 29 30 2 0 X3 S = true) ∧ (endL 29 30 33 false S = true) ∧ (linS 3 1 28 2 0 X3 S = true) ∧ (endL 1 28 33 false S = true) := ⟨by kernel_rfl, by kernel_rfl, by kernel_rfl, by kernel_rfl, by kernel_rfl⟩
theorem d33 : endL 1 30 33 true S = true := l_g31.1
theorem e33_s : linS 3 29 30 2 0 X3 S = true := l_g31.2.1
theorem e33 : endL 29 30 33 false S = true := l_g31.2.2.1
theorem f33_s : linS 3 1 28 2 0 X3 S = true := l_g31.2.2.2.1
theorem f33 : endL 1 28 33 false S = true := l_g31.2.2.2.2
set_option maxRecDepth 1000000 in
theorem l_g32 : (endL 1 30 34 true S = true) ∧ (linS 3 30 30 2 0 X3 S = true) ∧ (endL 30 30 34 false S = true) ∧ (linS 3 1 29 2 0 X3 S = true) ∧ (endL 1 29 34 false S = true) := ⟨by kernel_rfl, by kernel_rfl, by kernel_rfl, by kernel_rfl, by kernel_rfl⟩
theorem d34 : endL 1 30 34 true S = true := l_g32.1
theorem e34_s : linS 3 30 30 2 0 X3 S = true := l_g32.2.1
theorem e34 : endL 30 30 34 false S = true := l_g32.2.2.1
theorem f34_s : linS 3 1 29 2 0 X3 S = true := l_g32.2.2.2.1
theorem f34 : endL 1 29 34 false S = true := l_g32.2.2.2.2

end Go.Proofs.YtnfojfamiieieaaGreat
