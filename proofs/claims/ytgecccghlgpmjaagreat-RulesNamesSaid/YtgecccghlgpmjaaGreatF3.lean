/- Calls whose answers are computed: each answers true. No condition. -/
import Derived.Test.YtgecccghlgpmjaaGreatCf2
import Derived.Test.YtgecccghlgpmjaaGreatAi6
import Derived.KernelRfl
namespace Go.AI.Tryz
def a4 : List PVal := [(.str ⟨#[108, 97, 98, 101, 108, 40, 108, 97, 98, 101, 108, 40, 115, 101, 113, 40, 106, 117, 109, 112, 47, 49, 44, 48, 47, 50, 41, 44, 120, 49, 41, 44, 120, 49, 41]⟩), .int .u8 18, .int .i64 1, (.str ⟨#[108, 97, 98, 101, 108, 40, 115, 101, 113, 40, 106, 117, 109, 112, 47, 48, 44, 48, 47, 50, 41, 44, 120, 49, 41]⟩)]
theorem a4_true : isB true (((mkEnvF CP 1000 []).call 35 (a4.map .p) s00).map (·.1)) = true := by kernel_rfl
def a5 : List PVal := [(.str ⟨#[99, 104, 111, 111, 115, 101, 40, 120, 49, 44, 120, 49, 41]⟩), .int .u8 21, .int .i64 0, (.str ⟨#[120, 49]⟩)]
theorem a5_true : isB true (((mkEnvF CP 1000 []).call 35 (a5.map .p) s00).map (·.1)) = true := by kernel_rfl
end Go.AI.Tryz
