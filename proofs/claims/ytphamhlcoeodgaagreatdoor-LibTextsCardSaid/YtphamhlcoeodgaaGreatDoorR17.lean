/- Runs of the law at given inputs, in the kernel. No condition. -/
import Derived.Test.YtphamhlcoeodgaaGreatDoorPe
set_option linter.unusedVariables false
set_option linter.unusedSimpArgs false
namespace Go.AI.Tryz
theorem qi4 (m:Int)(k:Nat):isT ((qah CP spL 100000 (EM m)).call 3 [.p (.str ⟨#[99,111,112,121]⟩),.p (.int .i64 (.negSucc k))] s00)=true:=by kernel_rfl
theorem qnl (m:Int):isT ((qah CP spL 100000 (EM m)).call 3 [.p (.str ⟨#[99,111,112,121]⟩),.p (.int .i64 0)] s00)=true:=by kernel_rfl
theorem qi5 (m:Int)(j:Nat):isT ((qah CP spL 100000 (EM m)).call 3 [.p (.str ⟨#[99,111,112,121]⟩),.p (.int .i64 (.ofNat (j+13)))] s00)=true:=by kernel_rfl
theorem qhs (m:Int)(k:Nat):isT ((qah CP spL 100000 (EM m)).call 3 [.p (.str ⟨#[116,119,105,99,101]⟩),.p (.int .i64 (.negSucc k))] s00)=true:=by kernel_rfl
theorem qlo (m:Int):isT ((qah CP spL 100000 (EM m)).call 3 [.p (.str ⟨#[116,119,105,99,101]⟩),.p (.int .i64 0)] s00)=true:=by kernel_rfl
theorem qht (m:Int)(j:Nat):isT ((qah CP spL 100000 (EM m)).call 3 [.p (.str ⟨#[116,119,105,99,101]⟩),.p (.int .i64 (.ofNat (j+7)))] s00)=true:=by kernel_rfl
theorem qi6 (m:Int)(k:Nat):isT ((qah CP spL 100000 (EM m)).call 3 [.p (.str ⟨#[109,101,109,111]⟩),.p (.int .i64 (.negSucc k))] s00)=true:=by kernel_rfl
theorem qnm (m:Int):isT ((qah CP spL 100000 (EM m)).call 3 [.p (.str ⟨#[109,101,109,111]⟩),.p (.int .i64 0)] s00)=true:=by kernel_rfl
theorem qi7 (m:Int)(j:Nat):isT ((qah CP spL 100000 (EM m)).call 3 [.p (.str ⟨#[109,101,109,111]⟩),.p (.int .i64 (.ofNat (j+7)))] s00)=true:=by kernel_rfl
theorem qhu (m:Int)(k:Nat):isT ((qah CP spL 100000 (EM m)).call 3 [.p (.str ⟨#[99,111,117,110,116]⟩),.p (.int .i64 (.negSucc k))] s00)=true:=by kernel_rfl
theorem qlp (m:Int):isT ((qah CP spL 100000 (EM m)).call 3 [.p (.str ⟨#[99,111,117,110,116]⟩),.p (.int .i64 0)] s00)=true:=by kernel_rfl
theorem qlq (m:Int):isT ((qah CP spL 100000 (EM m)).call 3 [.p (.str ⟨#[99,111,117,110,116]⟩),.p (.int .i64 1)] s00)=true:=by kernel_rfl
theorem qhv (m:Int)(j:Nat):isT ((qah CP spL 100000 (EM m)).call 3 [.p (.str ⟨#[99,111,117,110,116]⟩),.p (.int .i64 (.ofNat (j+7)))] s00)=true:=by kernel_rfl
theorem qhw (m:Int)(k:Nat):isT ((qah CP spL 100000 (EM m)).call 3 [.p (.str ⟨#[99,97,116,99,104]⟩),.p (.int .i64 (.negSucc k))] s00)=true:=by kernel_rfl
theorem qlr (m:Int):isT ((qah CP spL 100000 (EM m)).call 3 [.p (.str ⟨#[99,97,116,99,104]⟩),.p (.int .i64 0)] s00)=true:=by kernel_rfl
theorem qhx (m:Int)(j:Nat):isT ((qah CP spL 100000 (EM m)).call 3 [.p (.str ⟨#[99,97,116,99,104]⟩),.p (.int .i64 (.ofNat (j+17)))] s00)=true:=by kernel_rfl
theorem qi8 (m:Int)(k:Nat):isT ((qah CP spL 100000 (EM m)).call 3 [.p (.str ⟨#[108,111,111,112]⟩),.p (.int .i64 (.negSucc k))] s00)=true:=by kernel_rfl
theorem qnn (m:Int):isT ((qah CP spL 100000 (EM m)).call 3 [.p (.str ⟨#[108,111,111,112]⟩),.p (.int .i64 0)] s00)=true:=by kernel_rfl
theorem qno (m:Int):isT ((qah CP spL 100000 (EM m)).call 3 [.p (.str ⟨#[108,111,111,112]⟩),.p (.int .i64 1)] s00)=true:=by kernel_rfl
theorem qi9 (m:Int)(j:Nat):isT ((qah CP spL 100000 (EM m)).call 3 [.p (.str ⟨#[108,111,111,112]⟩),.p (.int .i64 (.ofNat (j+5)))] s00)=true:=by kernel_rfl
theorem qja (m:Int)(k:Nat):isT ((qah CP spL 100000 (EM m)).call 3 [.p (.str ⟨#[108,111,99,107]⟩),.p (.int .i64 (.negSucc k))] s00)=true:=by kernel_rfl
theorem qnp (m:Int):isT ((qah CP spL 100000 (EM m)).call 3 [.p (.str ⟨#[108,111,99,107]⟩),.p (.int .i64 0)] s00)=true:=by kernel_rfl
theorem qnq (m:Int):isT ((qah CP spL 100000 (EM m)).call 3 [.p (.str ⟨#[108,111,99,107]⟩),.p (.int .i64 1)] s00)=true:=by kernel_rfl
theorem qjb (m:Int)(j:Nat):isT ((qah CP spL 100000 (EM m)).call 3 [.p (.str ⟨#[108,111,99,107]⟩),.p (.int .i64 (.ofNat (j+3)))] s00)=true:=by kernel_rfl
theorem qjc (m:Int)(k:Nat):isT ((qah CP spL 100000 (EM m)).call 3 [.p (.str ⟨#[111,110,99,101]⟩),.p (.int .i64 (.negSucc k))] s00)=true:=by kernel_rfl
theorem qnr (m:Int):isT ((qah CP spL 100000 (EM m)).call 3 [.p (.str ⟨#[111,110,99,101]⟩),.p (.int .i64 0)] s00)=true:=by kernel_rfl
theorem qns (m:Int):isT ((qah CP spL 100000 (EM m)).call 3 [.p (.str ⟨#[111,110,99,101]⟩),.p (.int .i64 1)] s00)=true:=by kernel_rfl
theorem qjd (m:Int)(j:Nat):isT ((qah CP spL 100000 (EM m)).call 3 [.p (.str ⟨#[111,110,99,101]⟩),.p (.int .i64 (.ofNat (j+3)))] s00)=true:=by kernel_rfl
theorem qje (m:Int)(k:Nat):isT ((qah CP spL 100000 (EM m)).call 3 [.p (.str ⟨#[115,111,114,116]⟩),.p (.int .i64 (.negSucc k))] s00)=true:=by kernel_rfl
theorem qnt (m:Int):isT ((qah CP spL 100000 (EM m)).call 3 [.p (.str ⟨#[115,111,114,116]⟩),.p (.int .i64 0)] s00)=true:=by kernel_rfl
theorem qnu (m:Int):isT ((qah CP spL 100000 (EM m)).call 3 [.p (.str ⟨#[115,111,114,116]⟩),.p (.int .i64 1)] s00)=true:=by kernel_rfl
theorem qjf (m:Int)(j:Nat):isT ((qah CP spL 100000 (EM m)).call 3 [.p (.str ⟨#[115,111,114,116]⟩),.p (.int .i64 (.ofNat (j+4)))] s00)=true:=by kernel_rfl
theorem qjg (m:Int)(k:Nat):isT ((qah CP spL 100000 (EM m)).call 3 [.p (.str ⟨#[102,111,108,100]⟩),.p (.int .i64 (.negSucc k))] s00)=true:=by kernel_rfl
theorem qnv (m:Int):isT ((qah CP spL 100000 (EM m)).call 3 [.p (.str ⟨#[102,111,108,100]⟩),.p (.int .i64 0)] s00)=true:=by kernel_rfl
theorem qjh (m:Int)(j:Nat):isT ((qah CP spL 100000 (EM m)).call 3 [.p (.str ⟨#[102,111,108,100]⟩),.p (.int .i64 (.ofNat (j+5)))] s00)=true:=by kernel_rfl
theorem qgQ (m:Int)(k:Nat):isT ((qah CP spL 100000 (EM m)).call 3 [.p (.str ⟨#[101,105,116,104,101,114]⟩),.p (.int .i64 (.negSucc k))] s00)=true:=by kernel_rfl
theorem qji (m:Int):isT ((qah CP spL 100000 (EM m)).call 3 [.p (.str ⟨#[101,105,116,104,101,114]⟩),.p (.int .i64 0)] s00)=true:=by kernel_rfl
theorem qjj (m:Int):isT ((qah CP spL 100000 (EM m)).call 3 [.p (.str ⟨#[101,105,116,104,101,114]⟩),.p (.int .i64 1)] s00)=true:=by kernel_rfl
theorem qgR (m:Int)(j:Nat):isT ((qah CP spL 100000 (EM m)).call 3 [.p (.str ⟨#[101,105,116,104,101,114]⟩),.p (.int .i64 (.ofNat (j+3)))] s00)=true:=by kernel_rfl
theorem qhy (m:Int)(k:Nat):isT ((qah CP spL 100000 (EM m)).call 3 [.p (.str ⟨#[117,110,116,105,108]⟩),.p (.int .i64 (.negSucc k))] s00)=true:=by kernel_rfl
theorem qls (m:Int):isT ((qah CP spL 100000 (EM m)).call 3 [.p (.str ⟨#[117,110,116,105,108]⟩),.p (.int .i64 0)] s00)=true:=by kernel_rfl
theorem qlt (m:Int):isT ((qah CP spL 100000 (EM m)).call 3 [.p (.str ⟨#[117,110,116,105,108]⟩),.p (.int .i64 1)] s00)=true:=by kernel_rfl
theorem qhz (m:Int)(j:Nat):isT ((qah CP spL 100000 (EM m)).call 3 [.p (.str ⟨#[117,110,116,105,108]⟩),.p (.int .i64 (.ofNat (j+9)))] s00)=true:=by kernel_rfl
theorem qgS (m:Int)(k:Nat):isT ((qah CP spL 100000 (EM m)).call 3 [.p (.str ⟨#[99,97,117,103,104,116]⟩),.p (.int .i64 (.negSucc k))] s00)=true:=by kernel_rfl
theorem qjk (m:Int):isT ((qah CP spL 100000 (EM m)).call 3 [.p (.str ⟨#[99,97,117,103,104,116]⟩),.p (.int .i64 0)] s00)=true:=by kernel_rfl
theorem qjl (m:Int):isT ((qah CP spL 100000 (EM m)).call 3 [.p (.str ⟨#[99,97,117,103,104,116]⟩),.p (.int .i64 1)] s00)=true:=by kernel_rfl
theorem qjm (m:Int):isT ((qah CP spL 100000 (EM m)).call 3 [.p (.str ⟨#[99,97,117,103,104,116]⟩),.p (.int .i64 2)] s00)=true:=by kernel_rfl
theorem qgT (m:Int)(j:Nat):isT ((qah CP spL 100000 (EM m)).call 3 [.p (.str ⟨#[99,97,117,103,104,116]⟩),.p (.int .i64 (.ofNat (j+4)))] s00)=true:=by kernel_rfl
end Go.AI.Tryz
