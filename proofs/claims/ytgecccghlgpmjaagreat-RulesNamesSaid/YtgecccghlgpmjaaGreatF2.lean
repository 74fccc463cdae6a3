/- Calls whose answers are computed: each answers true. No condition. -/
import Derived.Test.YtgecccghlgpmjaaGreatCf2
import Derived.Test.YtgecccghlgpmjaaGreatAi6
import Derived.KernelRfl
namespace Go.AI.Tryz
def a2 : List PVal := [(.str ⟨#[110, 101, 119, 47, 51, 47, 49, 40, 115, 101, 113, 40, 61, 51, 40, 33, 50, 41, 44, 97, 115, 47, 50, 40, 33, 50, 41, 41, 41]⟩), .int .u8 16, .int .i64 0, (.str ⟨#[115, 101, 113, 40, 97, 115, 47, 49, 40, 33, 50, 41, 44, 97, 115, 47, 50, 40, 33, 50, 41, 41]⟩)]
theorem a2_true : isB true (((mkEnvF CP 1000 []).call 35 (a2.map .p) s00).map (·.1)) = true := by kernel_rfl
def a3 : List PVal := [(.str ⟨#[108, 97, 98, 101, 108, 40, 115, 101, 113, 40, 106, 117, 109, 112, 47, 48, 44, 120, 49, 41, 44, 48, 47, 50, 41]⟩), .int .u8 12, .int .i64 1, (.str ⟨#[108, 97, 98, 101, 108, 40, 115, 101, 113, 40, 106, 117, 109, 112, 47, 48, 44, 48, 47, 50, 41, 44, 48, 47, 50, 41]⟩)]
theorem a3_true : isB true (((mkEnvF CP 1000 []).call 35 (a3.map .p) s00).map (·.1)) = true := by kernel_rfl
end Go.AI.Tryz
