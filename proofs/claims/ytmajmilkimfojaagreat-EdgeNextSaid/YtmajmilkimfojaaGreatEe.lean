/- The law EdgeNext: the looks at 2 operations. -/
import Derived.Test.YtmajmilkimfojaaGreatEb
namespace Go.Proofs.YtmajmilkimfojaaGreat
set_option maxRecDepth 1000000
theorem e2_0 : look7 2 [(0, false), (0, true), (1, false), (1, true), (2, false), (2, true)] = true := by kernel_rfl
end Go.Proofs.YtmajmilkimfojaaGreat
