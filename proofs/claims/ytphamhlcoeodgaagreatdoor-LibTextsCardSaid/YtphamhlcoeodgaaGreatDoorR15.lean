/- Runs of the law at given inputs, in the kernel. No condition. -/
import Derived.Test.YtphamhlcoeodgaaGreatDoorPe
set_option linter.unusedVariables false
set_option linter.unusedSimpArgs false
namespace Go.AI.Tryz
theorem qni (m:Int):isT ((qah CP spL 100000 (EM m)).call 3 [.p (.str ⟨#[108,111,111,112]⟩),.p (.int .i64 2)] s00)=true:=by kernel_rfl
theorem qnj (m:Int):isT ((qah CP spL 100000 (EM m)).call 3 [.p (.str ⟨#[108,111,111,112]⟩),.p (.int .i64 3)] s00)=true:=by kernel_rfl
theorem qnk (m:Int):isT ((qah CP spL 100000 (EM m)).call 3 [.p (.str ⟨#[108,111,111,112]⟩),.p (.int .i64 4)] s00)=true:=by kernel_rfl
end Go.AI.Tryz
