/- Runs of the law at given inputs, in the kernel. No condition. -/
import Derived.Test.YtphamhlcoeodgaaGreatDoorPe
set_option linter.unusedVariables false
set_option linter.unusedSimpArgs false
namespace Go.AI.Tryz
theorem qm6 (m:Int):isT ((qah CP spL 100000 (EM m)).call 3 [.p (.str ⟨#[115,111,114,116]⟩),.p (.int .i64 3)] s00)=true:=by kernel_rfl
end Go.AI.Tryz
