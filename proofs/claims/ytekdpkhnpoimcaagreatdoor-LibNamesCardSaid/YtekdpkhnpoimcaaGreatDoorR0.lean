/- Runs of the law at given inputs, in the kernel. No condition. -/
import Derived.Test.YtekdpkhnpoimcaaGreatDoorPf
set_option linter.unusedVariables false
set_option linter.unusedSimpArgs false
namespace Go.AI.Tryz
open Go.Proofs
theorem qqt (m:Int):isT ((qd2 CP spL 100000 (EM m)).call 3 [] s00)=true:=by kernel_rfl
end Go.AI.Tryz
