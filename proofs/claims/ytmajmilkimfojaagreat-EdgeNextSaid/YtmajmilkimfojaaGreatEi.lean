/- The law EdgeNext: the looks at 6 operations. -/
import Derived.Test.YtmajmilkimfojaaGreatEb
namespace Go.Proofs.YtmajmilkimfojaaGreat
set_option maxRecDepth 1000000
theorem e6_0 : look7 6 [(0, false), (0, true), (1, false), (1, true)] = true := by kernel_rfl
theorem e6_1 : look7 6 [(2, false), (2, true), (3, false), (3, true)] = true := by kernel_rfl
theorem e6_2 : look7 6 [(4, false), (4, true), (5, false), (5, true)] = true := by kernel_rfl
theorem e6_3 : look7 6 [(6, false), (6, true)] = true := by kernel_rfl
end Go.Proofs.YtmajmilkimfojaaGreat
