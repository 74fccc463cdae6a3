/- Runs of the law at given inputs, in the kernel. No condition. -/
import Derived.Test.YtphamhlcoeodgaaGreatDoorPe
set_option linter.unusedVariables false
set_option linter.unusedSimpArgs false
namespace Go.AI.Tryz
theorem qlj (m:Int):isT ((qah CP spL 100000 (EM m)).call 3 [.p (.str ⟨#[99,111,117,110,116]⟩),.p (.int .i64 2)] s00)=true:=by kernel_rfl
theorem qlk (m:Int):isT ((qah CP spL 100000 (EM m)).call 3 [.p (.str ⟨#[99,111,117,110,116]⟩),.p (.int .i64 3)] s00)=true:=by kernel_rfl
theorem qll (m:Int):isT ((qah CP spL 100000 (EM m)).call 3 [.p (.str ⟨#[99,111,117,110,116]⟩),.p (.int .i64 4)] s00)=true:=by kernel_rfl
theorem qlm (m:Int):isT ((qah CP spL 100000 (EM m)).call 3 [.p (.str ⟨#[99,111,117,110,116]⟩),.p (.int .i64 5)] s00)=true:=by kernel_rfl
theorem qln (m:Int):isT ((qah CP spL 100000 (EM m)).call 3 [.p (.str ⟨#[99,111,117,110,116]⟩),.p (.int .i64 6)] s00)=true:=by kernel_rfl
end Go.AI.Tryz
