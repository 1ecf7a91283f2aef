/- The law WorldReclaims: what is waited (3). -/
import Derived.Test.YtnfojfamiieieaaGreatXs
namespace Go.Proofs.YtnfojfamiieieaaGreat
open Go Go.Cx Go.RowKit

set_option maxRecDepth 1000000 in
theorem l_g9 : (endL 1 30 11 true S = true) ∧ (linS 3 7 30 2 0 X3 S = true) ∧ (endL 7 30 11 false S = true) ∧ (linS 3 1 6 2 0 X3 S = true) ∧ (endL 1 6 11 false S = true) := ⟨by kernel_rfl, by kernel_rfl, by kernel_rfl, by kernel_rfl, by kernel_rfl⟩
theorem d11 : endL 1 30 11 true S = true := l_g9.1
theorem e11_s : linS 3 7 30 2 0 X3 S = true := l_g9.2.1
theorem e11 : endL 7 30 11 false S = true := l_g9.2.2.1
theorem f11_s : linS 3 1 6 2 0 X3 S = true := l_g9.2.2.2.1
theorem f11 : endL 1 6 11 false S = true := l_g9.2.2.2.2
set_option maxRecDepth 1000000 in
theorem l_g10 : (endL 1 30 12 true S = true) ∧ (linS 3 8 30 2 0 X3 S = true) ∧ (endL 8 30 12 false S = true) ∧ (linS 3 1 7 2 0 X3 S = true) ∧ (endL 1 7 12 false S = true) := ⟨by kernel_rfl, by kernel_rfl, by kernel_rfl, by kernel_rfl, by kernel_rfl⟩
theorem d12 : endL 1 30 12 true S = true := l_g10.1
theorem e12_s : linS 3 8 30 2 0 X3 S = true := l_g10.2.1
theorem e12 : endL 8 30 12 false S = true := l_g10.2.2.1
theorem f12_s : linS 3 1 7 2 0 X3 S = true := l_g10.2.2.2.1
theorem f12 : endL 1 7 12 false S = true := l_g10.2.2.2.2
set_option maxRecDepth 1000000 in
theorem l_g11 : (endL 1 30 13 true S = true) ∧ (linS 3 9 30 2 0 X3 S = true) ∧ (endL 9 30 13 false S = true) ∧ (linS 3 1 8 2 0 X3 S = true) ∧ (endL 1 8 13 false S = true) := ⟨by kernel_rfl, by kernel_rfl, by kernel_rfl, by kernel_rfl, by kernel_rfl⟩
theorem d13 : endL 1 30 13 true S = true := l_g11.1
theorem e13_s : linS 3 9 30 2 0 X3 S = true := l_g11.2.1
theorem e13 : endL 9 30 13 false S = true := l_g11.2.2.1
theorem f13_s : linS 3 1 8 2 0 X3 S = true := l_g11.2.2.2.1
theorem f13 : endL 1 8 13 false S = true := l_g11.2.2.2.2

end Go.Proofs.YtnfojfamiieieaaGreat
