/- Runs of the law at given inputs, in the kernel. No condition. -/
import Derived.Test.YtphamhlcoeodgaaGreatDoorPe
set_option linter.unusedVariables false
set_option linter.unusedSimpArgs false
namespace Go.AI.Tryz
theorem qk9 (m:Int):isT ((qah CP spL 100000 (EM m)).call 3 [.p (.str ⟨#[117,110,116,105,108]⟩),.p (.int .i64 5)] s00)=true:=by kernel_rfl
theorem qla (m:Int):isT ((qah CP spL 100000 (EM m)).call 3 [.p (.str ⟨#[117,110,116,105,108]⟩),.p (.int .i64 6)] s00)=true:=by kernel_rfl
theorem qlb (m:Int):isT ((qah CP spL 100000 (EM m)).call 3 [.p (.str ⟨#[117,110,116,105,108]⟩),.p (.int .i64 7)] s00)=true:=by kernel_rfl
theorem qlc (m:Int):isT ((qah CP spL 100000 (EM m)).call 3 [.p (.str ⟨#[117,110,116,105,108]⟩),.p (.int .i64 8)] s00)=true:=by kernel_rfl
end Go.AI.Tryz
