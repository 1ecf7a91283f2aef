/- The law EdgeNext: the looks at 8 operations. -/
import Derived.Test.YtmajmilkimfojaaGreatEb
namespace Go.Proofs.YtmajmilkimfojaaGreat
set_option maxRecDepth 1000000
theorem e8_0 : look7 8 [(0, false), (0, true), (1, false), (1, true)] = true := by kernel_rfl
theorem e8_1 : look7 8 [(2, false), (2, true), (3, false), (3, true)] = true := by kernel_rfl
theorem e8_2 : look7 8 [(4, false), (4, true), (5, false), (5, true)] = true := by kernel_rfl
theorem e8_3 : look7 8 [(6, false), (6, true), (7, false), (7, true)] = true := by kernel_rfl
theorem e8_4 : look7 8 [(8, false), (8, true)] = true := by kernel_rfl
end Go.Proofs.YtmajmilkimfojaaGreat
