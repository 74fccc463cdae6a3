/- Runs of the law at given inputs, in the kernel. No condition. -/
import Derived.Test.YtphamhlcoeodgaaGreatDoorPe
set_option linter.unusedVariables false
set_option linter.unusedSimpArgs false
namespace Go.AI.Tryz
theorem qkU (m:Int):isT ((qah CP spL 100000 (EM m)).call 3 [.p (.str ⟨#[99,97,116,99,104]⟩),.p (.int .i64 1)] s00)=true:=by kernel_rfl
theorem qkV (m:Int):isT ((qah CP spL 100000 (EM m)).call 3 [.p (.str ⟨#[99,97,116,99,104]⟩),.p (.int .i64 2)] s00)=true:=by kernel_rfl
theorem qkW (m:Int):isT ((qah CP spL 100000 (EM m)).call 3 [.p (.str ⟨#[99,97,116,99,104]⟩),.p (.int .i64 3)] s00)=true:=by kernel_rfl
theorem qkX (m:Int):isT ((qah CP spL 100000 (EM m)).call 3 [.p (.str ⟨#[99,97,116,99,104]⟩),.p (.int .i64 4)] s00)=true:=by kernel_rfl
theorem qkY (m:Int):isT ((qah CP spL 100000 (EM m)).call 3 [.p (.str ⟨#[99,97,116,99,104]⟩),.p (.int .i64 5)] s00)=true:=by kernel_rfl
end Go.AI.Tryz
