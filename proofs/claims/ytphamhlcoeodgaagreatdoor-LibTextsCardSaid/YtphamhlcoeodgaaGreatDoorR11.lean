/- Runs of the law at given inputs, in the kernel. No condition. -/
import Derived.Test.YtphamhlcoeodgaaGreatDoorPe
set_option linter.unusedVariables false
set_option linter.unusedSimpArgs false
namespace Go.AI.Tryz
theorem qnf (m:Int):isT ((qah CP spL 100000 (EM m)).call 3 [.p (.str ⟨#[109,101,109,111]⟩),.p (.int .i64 4)] s00)=true:=by kernel_rfl
theorem qng (m:Int):isT ((qah CP spL 100000 (EM m)).call 3 [.p (.str ⟨#[109,101,109,111]⟩),.p (.int .i64 5)] s00)=true:=by kernel_rfl
theorem qnh (m:Int):isT ((qah CP spL 100000 (EM m)).call 3 [.p (.str ⟨#[109,101,109,111]⟩),.p (.int .i64 6)] s00)=true:=by kernel_rfl
end Go.AI.Tryz
