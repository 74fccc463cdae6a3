/- Runs of the law at given inputs, in the kernel. No condition. -/
import Derived.Test.YtphamhlcoeodgaaGreatDoorPe
set_option linter.unusedVariables false
set_option linter.unusedSimpArgs false
namespace Go.AI.Tryz
def names:List ByteArray:=[⟨#[99,111,112,121]⟩,⟨#[116,119,105,99,101]⟩,⟨#[109,101,109,111]⟩,⟨#[99,111,117,110,116]⟩,⟨#[99,97,116,99,104]⟩,⟨#[108,111,111,112]⟩,⟨#[108,111,99,107]⟩,⟨#[111,110,99,101]⟩,⟨#[115,111,114,116]⟩,⟨#[102,111,108,100]⟩,⟨#[101,105,116,104,101,114]⟩,⟨#[117,110,116,105,108]⟩,⟨#[99,97,117,103,104,116]⟩]
theorem qq2 (nm:ByteArray)(m n:Int)(j:Nat):isT ((qah CP spL 100000 (EM m)).call 3 [.sym nm [] (j+101),.p (.int .i64 n)] s00)=true:=by kernel_rfl
theorem qq3 (nm:ByteArray)(m n:Int):((List.range 101).all fun k=>isT ((qah CP spL 100000 (EM m)).call 3 [.sym nm names k,.p (.int .i64 n)] s00))=true:=by kernel_rfl
end Go.AI.Tryz
