/- The law EdgeNext: the looks at 10 operations. -/
import Derived.Test.YtmajmilkimfojaaGreatEb
namespace Go.Proofs.YtmajmilkimfojaaGreat
set_option maxRecDepth 1000000
theorem e10_0 : look7 10 [(0, false), (0, true), (1, false), (1, true)] = true := by kernel_rfl
theorem e10_1 : look7 10 [(2, false), (2, true), (3, false), (3, true)] = true := by kernel_rfl
theorem e10_2 : look7 10 [(4, false), (4, true), (5, false), (5, true)] = true := by kernel_rfl
theorem e10_3 : look7 10 [(6, false), (6, true), (7, false), (7, true)] = true := by kernel_rfl
theorem e10_4 : look7 10 [(8, false), (8, true), (9, false), (9, true)] = true := by kernel_rfl
theorem e10_5 : look7 10 [(10, false), (10, true)] = true := by kernel_rfl
end Go.Proofs.YtmajmilkimfojaaGreat
