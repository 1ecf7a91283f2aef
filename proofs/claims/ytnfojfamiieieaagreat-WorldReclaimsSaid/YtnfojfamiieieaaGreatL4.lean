/- The law WorldReclaims: what is waited (4). -/
import Derived.Test.YtnfojfamiieieaaGreatXs
namespace Go.Proofs.YtnfojfamiieieaaGreat
open Go Go.Cx Go.RowKit

set_option maxRecDepth 1000000 in
theorem l_g12 : (endL 1 30 14 true S = true) ∧ (linS 3 10 30 2 0 X3 S = true) ∧ (endL 10 30 14 false S = true) ∧ (linS 3 1 9 2 0 X3 S = true) ∧ (endL 1 9 14 false S = true) := ⟨by kernel_rfl, by kernel_rfl, by kernel_rfl, by kernel_rfl, by kernel_rfl⟩
theorem d14 : endL 1 30 14 true S = true := l_g12.1
theorem e14_s : linS 3 10 30 2 0 X3 S = true := l_g12.2.1
theorem e14 : endL 10 30 14 false S = true := l_g12.2.2.1
theorem f14_s : linS 3 1 9 2 0 X3 S = true := l_g12.2.2.2.1
theorem f14 : endL 1 9 14 false S = true := l_g12.2.2.2.2
set_option maxRecDepth 1000000 in
theorem l_g13 : (endL 1 30 15 true S = true) ∧ (linS 3 11 30 2 0 X3 S = true) ∧ (endL 11 30 15 false S = true) ∧ (linS 3 1 10 2 0 X3 S = true) ∧ (endL 1 10 15 false S = true) := ⟨by kernel_rfl, by kernel_rfl, by kernel_rfl, by kernel_rfl, by kernel_rfl⟩
theorem d15 : endL 1 30 15 true S = true := l_g13.1
theorem e15_s : linS 3 11 30 2 0 X3 S = true := l_g13.2.1
theorem e15 : endL 11 30 15 false S = true := l_g13.2.2.1
theorem f15_s : linS 3 1 10 2 0 X3 S = true := l_g13.2.2.2.1
theorem f15 : endL 1 10 15 false S = true := l_g13.2.2.2.2
set_option maxRecDepth 1000000 in
theorem l_g14 : (endL 1 30 16 true S = true) ∧ (linS 3 12 30 2 0 X3 S = true) ∧ (endL 12 30 16 false S = true) ∧ (linS 3 1 11 2 0 X3 S = true) ∧ (endL 1 11 16 false S = true) := ⟨by kernel_rfl, by kernel_rfl, by kernel_rfl, by kernel_rfl, by kernel_rfl⟩
theorem d16 : endL 1 30 16 true S = true := l_g14.1
theorem e16_s : linS 3 12 30 2 0 X3 S = true := l_g14.2.1
theorem e16 : endL 12 30 16 false S = true := l_g14.2.2.1
theorem f16_s : linS 3 1 11 2 0 X3 S = true := l_g14.2.2.2.1
theorem f16 : endL 1 11 16 false S = true := l_g14.2.2.2.2

end Go.Proofs.YtnfojfamiieieaaGreat
