/- The law EdgeNext: the looks at 5 operations. -/
import Derived.Test.YtmajmilkimfojaaGreatEb
namespace Go.Proofs.YtmajmilkimfojaaGreat
set_option maxRecDepth 1000000
theorem e5_0 : look7 5 [(0, false), (0, true), (1, false), (1, true), (2, false), (2, true)] = true := by kernel_rfl
theorem e5_1 : look7 5 [(3, false), (3, true), (4, false), (4, true), (5, false), (5, true)] = true := by kernel_rfl
end Go.Proofs.YtmajmilkimfojaaGreat
