/- Runs of the law at given inputs, in the kernel. No condition. -/
import Derived.Test.YtphamhlcoeodgaaGreatDoorPe
set_option linter.unusedVariables false
set_option linter.unusedSimpArgs false
namespace Go.AI.Tryz
theorem qld (m:Int):isT ((qah CP spL 100000 (EM m)).call 3 [.p (.str ⟨#[116,119,105,99,101]⟩),.p (.int .i64 1)] s00)=true:=by kernel_rfl
theorem qle (m:Int):isT ((qah CP spL 100000 (EM m)).call 3 [.p (.str ⟨#[116,119,105,99,101]⟩),.p (.int .i64 2)] s00)=true:=by kernel_rfl
theorem qlf (m:Int):isT ((qah CP spL 100000 (EM m)).call 3 [.p (.str ⟨#[116,119,105,99,101]⟩),.p (.int .i64 3)] s00)=true:=by kernel_rfl
theorem qlg (m:Int):isT ((qah CP spL 100000 (EM m)).call 3 [.p (.str ⟨#[116,119,105,99,101]⟩),.p (.int .i64 4)] s00)=true:=by kernel_rfl
theorem qlh (m:Int):isT ((qah CP spL 100000 (EM m)).call 3 [.p (.str ⟨#[116,119,105,99,101]⟩),.p (.int .i64 5)] s00)=true:=by kernel_rfl
theorem qli (m:Int):isT ((qah CP spL 100000 (EM m)).call 3 [.p (.str ⟨#[116,119,105,99,101]⟩),.p (.int .i64 6)] s00)=true:=by kernel_rfl
end Go.AI.Tryz
