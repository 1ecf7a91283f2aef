/- The law WorldReclaims: what is waited (1). -/
import Derived.Test.YtnfojfamiieieaaGreatXs
namespace Go.Proofs.YtnfojfamiieieaaGreat
open Go Go.Cx Go.RowKit

set_option maxRecDepth 1000000 in
theorem l_g3 : (linS 3 1 30 2 0 X3 S = true) ∧ (endL 1 30 4 false S = true) ∧ (endL 1 30 5 true S = true) ∧ (linS 3 1 30 2 0 X3 S = true) ∧ (endL 1 30 5 false S = true) := ⟨by kernel_rfl, by kernel_rfl, by kernel_rfl, by kernel_rfl, by kernel_rfl⟩
theorem e4_s : linS 3 1 30 2 0 X3 S = true := l_g3.1
theorem e4 : endL 1 30 4 false S = true := l_g3.2.1
theorem d5 : endL 1 30 5 true S = true := l_g3.2.2.1
theorem e5_s : linS 3 1 30 2 0 X3 S = true := l_g3.2.2.2.1
theorem e5 : endL 1 30 5 false S = true := l_g3.2.2.2.2
set_option maxRecDepth 1000000 in
theorem l_g4 : (endL 1 30 6 true S = true) ∧ (linS 3 2 30 2 0 X3 S = true) ∧ (endL 2 30 6 false S = true) ∧ (linS 3 1 1 2 0 X3 S = true) ∧ (endL 1 1 6 false S = true) := ⟨by kernel_rfl, by kernel_rfl, by kernel_rfl, by kernel_rfl, by kernel_rfl⟩
theorem d6 : endL 1 30 6 true S = true := l_g4.1
theorem e6_s : linS 3 2 30 2 0 X3 S = true := l_g4.2.1
theorem e6 : endL 2 30 6 false S = true := l_g4.2.2.1
theorem f6_s : linS 3 1 1 2 0 X3 S = true := l_g4.2.2.2.1
theorem f6 : endL 1 1 6 false S = true := l_g4.2.2.2.2
set_option maxRecDepth 1000000 in
theorem l_g5 : (endL 1 30 7 true S = true) ∧ (linS 3 3 30 2 0 X3 S = true) ∧ (endL 3 30 7 false S = true) ∧ (linS 3 1 2 2 0 X3 S = true) ∧ (endL 1 2 7 false S = true) := ⟨by kernel_rfl, by kernel_rfl, by kernel_rfl, by kernel_rfl, by kernel_rfl⟩
theorem d7 : endL 1 30 7 true S = true := l_g5.1
theorem e7_s : linS 3 3 30 2 0 X3 S = true := l_g5.2.1
theorem e7 : endL 3 30 7 false S = true := l_g5.2.2.1
theorem f7_s : linS 3 1 2 2 0 X3 S = true := l_g5.2.2.2.1
theorem f7 : endL 1 2 7 false S = true := l_g5.2.2.2.2

end Go.Proofs.YtnfojfamiieieaaGreat
