/- The law WorldReclaims: what is waited (2). -/
import Derived.Test.YtnfojfamiieieaaGreatXs
namespace Go.Proofs.YtnfojfamiieieaaGreat
open Go Go.Cx Go.RowKit

set_option maxRecDepth 1000000 in
theorem l_g6 : (endL 1 30 8 true S = true) ∧ (linS 3 4 30 2 0 X3 S = true) ∧ (endL 4 30 8 false S = true) ∧ (linS 3 1 3 2 0 X3 S = true) ∧ (endL 1 3 8 false S = true) := ⟨by kernel_rfl, by kernel_rfl, by kernel_rfl, by kernel_rfl, by kernel_rfl⟩
theorem d8 : endL 1 30 8 true S = true := l_g6.1
theorem e8_s : linS 3 4 30 2 0 X3 S = true := l_g6.2.1
theorem e8 : endL 4 30 8 false S = true := l_g6.2.2.1
theorem f8_s : linS 3 1 3 2 0 X3 S = true := l_g6.2.2.2.1
theorem f8 : endL 1 3 8 false S = true := l_g6.2.2.2.2
set_option maxRecDepth 1000000 in
theorem l_g7 : (endL 1 30 9 true S = true) ∧ (linS 3 5 30 2 0 X3 S = true) ∧ (endL 5 30 9 false S = true) ∧ (linS 3 1 4 2 0 X3 S = true) ∧ (endL 1 4 9 false S = true) := ⟨by kernel_rfl, by kernel_rfl, by kernel_rfl, by kernel_rfl, by kernel_rfl⟩
theorem d9 : endL 1 30 9 true S = true := l_g7.1
theorem e9_s : linS 3 5 30 2 0 X3 S = true := l_g7.2.1
theorem e9 : endL 5 30 9 false S = true := l_g7.2.2.1
theorem f9_s : linS 3 1 4 2 0 X3 S = true := l_g7.2.2.2.1
theorem f9 : endL 1 4 9 false S = true := l_g7.2.2.2.2
set_option maxRecDepth 1000000 in
theorem l_g8 : (endL 1 30 10 true S = true) ∧ (linS 3 6 30 2 0 X3 S = true) ∧ (endL 6 30 10 false S = true) ∧ (linS 3 1 5 2 0 X3 S = true) ∧ (endL 1 5 10 false S = true) := ⟨by kernel_rfl, by kernel_rfl, by kernel_rfl, by kernel_rfl, by kernel_rfl⟩
theorem d10 : endL 1 30 10 true S = true := l_g8.1
theorem e10_s : linS 3 6 30 2 0 X3 S = true := l_g8.2.1
theorem e10 : endL 6 30 10 false S = true := l_g8.2.2.1
theorem f10_s : linS 3 1 5 2 0 X3 S = true := l_g8.2.2.2.1
theorem f10 : endL 1 5 10 false S = true := l_g8.2.2.2.2

end Go.Proofs.YtnfojfamiieieaaGreat
