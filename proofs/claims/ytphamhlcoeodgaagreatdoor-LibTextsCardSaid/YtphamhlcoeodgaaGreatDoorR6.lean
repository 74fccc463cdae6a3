/- Runs of the law at given inputs, in the kernel. No condition. -/
import Derived.Test.YtphamhlcoeodgaaGreatDoorPe
set_option linter.unusedVariables false
set_option linter.unusedSimpArgs false
namespace Go.AI.Tryz
theorem qm7 (m:Int):isT ((qah CP spL 100000 (EM m)).call 3 [.p (.str ⟨#[99,111,112,121]⟩),.p (.int .i64 7)] s00)=true:=by kernel_rfl
theorem qm8 (m:Int):isT ((qah CP spL 100000 (EM m)).call 3 [.p (.str ⟨#[99,111,112,121]⟩),.p (.int .i64 8)] s00)=true:=by kernel_rfl
theorem qm9 (m:Int):isT ((qah CP spL 100000 (EM m)).call 3 [.p (.str ⟨#[99,111,112,121]⟩),.p (.int .i64 9)] s00)=true:=by kernel_rfl
theorem qk2 (m:Int):isT ((qah CP spL 100000 (EM m)).call 3 [.p (.str ⟨#[99,111,112,121]⟩),.p (.int .i64 10)] s00)=true:=by kernel_rfl
theorem qk3 (m:Int):isT ((qah CP spL 100000 (EM m)).call 3 [.p (.str ⟨#[99,111,112,121]⟩),.p (.int .i64 11)] s00)=true:=by kernel_rfl
theorem qk4 (m:Int):isT ((qah CP spL 100000 (EM m)).call 3 [.p (.str ⟨#[99,111,112,121]⟩),.p (.int .i64 12)] s00)=true:=by kernel_rfl
end Go.AI.Tryz
