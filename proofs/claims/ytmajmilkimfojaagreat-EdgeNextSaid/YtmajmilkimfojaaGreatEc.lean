/- The law EdgeNext: the looks at 0 operations. -/
import Derived.Test.YtmajmilkimfojaaGreatEb
namespace Go.Proofs.YtmajmilkimfojaaGreat
set_option maxRecDepth 1000000
theorem e0_0 : look7 0 [(0, false), (0, true)] = true := by kernel_rfl
end Go.Proofs.YtmajmilkimfojaaGreat
