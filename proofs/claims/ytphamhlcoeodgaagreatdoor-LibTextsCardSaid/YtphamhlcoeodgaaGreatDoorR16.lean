/- Runs of the law at given inputs, in the kernel. No condition. -/
import Derived.Test.YtphamhlcoeodgaaGreatDoorPe
set_option linter.unusedVariables false
set_option linter.unusedSimpArgs false
namespace Go.AI.Tryz
theorem qi2 (m:Int):isT ((qah CP spL 100000 (EM m)).call 3 [.p (.str ⟨#[101,105,116,104,101,114]⟩),.p (.int .i64 2)] s00)=true:=by kernel_rfl
theorem qi3 (m:Int):isT ((qah CP spL 100000 (EM m)).call 3 [.p (.str ⟨#[99,97,117,103,104,116]⟩),.p (.int .i64 3)] s00)=true:=by kernel_rfl
end Go.AI.Tryz
