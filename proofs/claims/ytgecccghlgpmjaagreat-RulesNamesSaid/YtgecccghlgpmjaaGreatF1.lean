/- Calls whose answers are computed: each answers true. No condition. -/
import Derived.Test.YtgecccghlgpmjaaGreatCf2
import Derived.Test.YtgecccghlgpmjaaGreatAi6
import Derived.KernelRfl
namespace Go.AI.Tryz
def a0 : List PVal := [(.str ⟨#[115, 101, 113, 40, 115, 101, 113, 40, 48, 47, 49, 44, 48, 47, 49, 41, 44, 120, 49, 41]⟩), .int .u8 11, .int .i64 0, (.str ⟨#[120, 49]⟩)]
theorem a0_true : isB true (((mkEnvF CP 1000 []).call 35 (a0.map .p) s00).map (·.1)) = true := by kernel_rfl
def a1 : List PVal := [(.str ⟨#[105, 102, 40, 105, 102, 40, 120, 49, 44, 48, 47, 50, 44, 49, 47, 50, 41, 44, 48, 47, 50, 44, 49, 47, 50, 41]⟩), .int .u8 8, .int .i64 0, (.str ⟨#[120, 49]⟩)]
theorem a1_true : isB true (((mkEnvF CP 1000 []).call 35 (a1.map .p) s00).map (·.1)) = true := by kernel_rfl
end Go.AI.Tryz
