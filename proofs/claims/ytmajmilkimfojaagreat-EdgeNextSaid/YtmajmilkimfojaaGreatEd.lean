/- The law EdgeNext: the looks at 1 operations. -/
import Derived.Test.YtmajmilkimfojaaGreatEb
namespace Go.Proofs.YtmajmilkimfojaaGreat
set_option maxRecDepth 1000000
theorem e1_0 : look7 1 [(0, false), (0, true), (1, false), (1, true)] = true := by kernel_rfl
end Go.Proofs.YtmajmilkimfojaaGreat
