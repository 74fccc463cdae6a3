/- Runs of the law at given inputs, in the kernel. No condition. -/
import Derived.Test.YtphamhlcoeodgaaGreatDoorPe
set_option linter.unusedVariables false
set_option linter.unusedSimpArgs false
namespace Go.AI.Tryz
theorem qna (m:Int):isT ((qah CP spL 100000 (EM m)).call 3 [.p (.str ⟨#[108,111,99,107]⟩),.p (.int .i64 2)] s00)=true:=by kernel_rfl
theorem qnb (m:Int):isT ((qah CP spL 100000 (EM m)).call 3 [.p (.str ⟨#[111,110,99,101]⟩),.p (.int .i64 2)] s00)=true:=by kernel_rfl
end Go.AI.Tryz
