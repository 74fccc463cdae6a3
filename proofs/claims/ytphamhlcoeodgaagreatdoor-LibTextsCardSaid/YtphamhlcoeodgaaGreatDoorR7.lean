/- Runs of the law at given inputs, in the kernel. No condition. -/
import Derived.Test.YtphamhlcoeodgaaGreatDoorPe
set_option linter.unusedVariables false
set_option linter.unusedSimpArgs false
namespace Go.AI.Tryz
theorem qk5 (m:Int):isT ((qah CP spL 100000 (EM m)).call 3 [.p (.str ⟨#[99,97,116,99,104]⟩),.p (.int .i64 6)] s00)=true:=by kernel_rfl
theorem qk6 (m:Int):isT ((qah CP spL 100000 (EM m)).call 3 [.p (.str ⟨#[99,97,116,99,104]⟩),.p (.int .i64 7)] s00)=true:=by kernel_rfl
theorem qk7 (m:Int):isT ((qah CP spL 100000 (EM m)).call 3 [.p (.str ⟨#[99,97,116,99,104]⟩),.p (.int .i64 8)] s00)=true:=by kernel_rfl
theorem qk8 (m:Int):isT ((qah CP spL 100000 (EM m)).call 3 [.p (.str ⟨#[99,97,116,99,104]⟩),.p (.int .i64 9)] s00)=true:=by kernel_rfl
theorem qiV (m:Int):isT ((qah CP spL 100000 (EM m)).call 3 [.p (.str ⟨#[99,97,116,99,104]⟩),.p (.int .i64 10)] s00)=true:=by kernel_rfl
theorem qiW (m:Int):isT ((qah CP spL 100000 (EM m)).call 3 [.p (.str ⟨#[99,97,116,99,104]⟩),.p (.int .i64 11)] s00)=true:=by kernel_rfl
end Go.AI.Tryz
