/- Calls whose answers are computed: each answers true. No condition. -/
import Derived.Test.YtgecccghlgpmjaaGreatCf2
import Derived.Test.YtgecccghlgpmjaaGreatAi6
import Derived.KernelRfl
namespace Go.AI.Tryz
def aw : List PVal := []
theorem aw_true : isB true (((mkEnvF CP 1000 []).call 12 (aw.map .p) s00).map (·.1)) = true := by kernel_rfl
end Go.AI.Tryz
