/- Runs of the law at given inputs, in the kernel. No condition. -/
import Derived.Test.YtphamhlcoeodgaaGreatDoorPe
set_option linter.unusedVariables false
set_option linter.unusedSimpArgs false
namespace Go.AI.Tryz
theorem qiX (m:Int):isT ((qah CP spL 100000 (EM m)).call 3 [.p (.str ⟨#[99,97,116,99,104]⟩),.p (.int .i64 12)] s00)=true:=by kernel_rfl
theorem qiY (m:Int):isT ((qah CP spL 100000 (EM m)).call 3 [.p (.str ⟨#[99,97,116,99,104]⟩),.p (.int .i64 13)] s00)=true:=by kernel_rfl
theorem qiZ (m:Int):isT ((qah CP spL 100000 (EM m)).call 3 [.p (.str ⟨#[99,97,116,99,104]⟩),.p (.int .i64 14)] s00)=true:=by kernel_rfl
theorem qi0 (m:Int):isT ((qah CP spL 100000 (EM m)).call 3 [.p (.str ⟨#[99,97,116,99,104]⟩),.p (.int .i64 15)] s00)=true:=by kernel_rfl
theorem qi1 (m:Int):isT ((qah CP spL 100000 (EM m)).call 3 [.p (.str ⟨#[99,97,116,99,104]⟩),.p (.int .i64 16)] s00)=true:=by kernel_rfl
end Go.AI.Tryz
