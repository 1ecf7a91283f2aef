/- The law EdgeNext: the looks at 7 operations. -/
import Derived.Test.YtmajmilkimfojaaGreatEb
namespace Go.Proofs.YtmajmilkimfojaaGreat
set_option maxRecDepth 1000000
theorem e7_0 : look7 7 [(0, false), (0, true), (1, false), (1, true)] = true := by kernel_rfl
theorem e7_1 : look7 7 [(2, false), (2, true), (3, false), (3, true)] = true := by kernel_rfl
theorem e7_2 : look7 7 [(4, false), (4, true), (5, false), (5, true)] = true := by kernel_rfl
theorem e7_3 : look7 7 [(6, false), (6, true), (7, false), (7, true)] = true := by kernel_rfl
end Go.Proofs.YtmajmilkimfojaaGreat
