/- RulesNamed: the name of any rule, and the rule with any name, are as the document says, or the errors are: for every uint8 and every string; no condition. The frame began as what proof-skeleton.mjs wrote for a law without arguments. -/
import Derived.Test.YtgecccghlgpmjaaGreatRows
import Derived.Test.YtgecccghlgpmjaaGreatNm
import Derived.Test.YtgecccghlgpmjaaGreatFA
import Derived.Test.YtgecccghlgpmjaaGreatCk
import Derived.WalkKit
import Derived.ProofKit
import Derived.OpenShut
import Derived.ShutString
import Derived.ChangeMaps5
namespace Go.Proofs.YtgecccghlgpmjaaGreat.rulesNamed
open Go.ChangeShapes Go.WideShapes Go.ChangeAt Go.RowKit
open Go.ChangeMaps (open_string shut_string)
set_option linter.unusedVariables false
open Go.AI in
open Go.AI.Tryz in
theorem aw_ok : FactOK Tryz.prog Go.AI.Tryz.CP ⟨12, Go.AI.Tryz.aw, .bool true⟩ := fact_of 1000 (by unfold runC; rw [← mkEnvF_eq]; exact Go.AI.Tryz.aw_true)
open Go.AI in
def M : List Fact := [⟨12, Go.AI.Tryz.aw, .bool true⟩]
open Go.AI in
theorem M_ok : ∀ x ∈ M, FactOK Tryz.prog Go.AI.Tryz.CP x := by
  intro x hx
  simp only [M, List.mem_cons, List.not_mem_nil, or_false] at hx
  subst hx
  exact aw_ok
theorem own : ownKnob Tryz.prog.godebug = none := by kernel_rfl

open Go.AI in
theorem walk (r : Nat) (hr : r < 256) (nm : ByteArray) (w : World) :
    Calls Tryz.prog 5 #[.int .u8 (.ofNat r), .string nm] w fun e w' => e = .returned (.bool true) ∧ Grown w w' := by
  refine law_memo (CP := Go.AI.Tryz.CP) Go.AI.Tryz.pk M_ok (n := 31) (cf := Go.AI.Tryz.cf5) (args := [u8 (.ofNat r), .p (.str nm)]) (s' := s00) (by kernel_rfl) rfl (by decide) (VRs.cons (VR.int .u8 (.ofNat r)) (VRs.cons (VR.str nm) VRs.nil)) ?_
  rw [Go.AI.Tryz.s5_eq]
  refine Go.AI.Tryz.law5 _ _ _ r nm (fun s => ?_) (fun s => ?_) (fun s => ?_) (fun s => ?_) (fun s => ?_)
  · rw [cl_eq, memo_call]; rfl
  · rw [memo_other (by kernel_rfl)]; exact Go.AI.Tryz.c23 30 (by omega) [] s r hr
  · rw [memo_other (by kernel_rfl)]; exact Go.AI.Tryz.c24 30 (by omega) [] s r hr
  · rw [memo_other (by kernel_rfl)]; exact Go.AI.Tryz.c25 30 (by omega) [] s nm
  · rw [memo_other (by kernel_rfl)]; exact Go.AI.Tryz.c26 30 (by omega) [] s nm

/-! ### THE ROW's STEP -/
set_option maxRecDepth 100000 in
theorem lifted (os : Os) (started : os.Started) (H : Type) (enc : TypeId × Value → H) :
    ReturnsInHanded {} Tryz.checked os 5 .any (Rows.rulesNamedSpec.pre6 enc Tryz.prog Tryz.f5 Rows.rulesNamedRow.domain false) (Rows.rulesNamedSpec.post enc Tryz.prog Tryz.f5 false true false false) := by
  refine returnsInHanded_of_change (C := Tryz.checked) own started (by kernel_rfl) Tryz.func5
    (ChangeSpec.witness6 (enc := enc) (C := Tryz.checked) false ⟨#[], #[.int .u8 0, .string ByteArray.empty], []⟩ 8 (by kernel_rfl) (by kernel_rfl) (by kernel_rfl) (by kernel_rfl)) ?_
  intro W base args ds gs before hval0 hW hcnd _
  have hval : ∀ (j : Nat) t v, Tryz.f5.params[j]? = some t → args[j]? = some v → Value.okWide Tryz.prog W .any base t v := hval0
  have hW' := hW
  obtain ⟨p, q, hA0, hV, rfl, hfz, hnd⟩ := hW
  have hA : DataW.TrodAll enc Tryz.prog W 0 (fun _ => true) true Tryz.f5.params.toList args.toList ds p := hA0
  rw [Tryz.params5] at hA hval
  obtain ⟨v0, vs0, d0, ds0, p0, q0, hargs, rfl, rfl, h0, r0⟩ := trodAll_cons hA
  obtain ⟨v1, vs1, d1, ds1, p1, q1, rfl, rfl, rfl, h1, r1⟩ := trodAll_cons r0
  obtain ⟨rfl, rfl, rfl⟩ := trodAll_nil r1
  obtain rfl : args = #[v0, v1] := by cases args; simp_all
  obtain ⟨rfl, rfl⟩ := trodVars_none hV
  obtain ⟨a0, rfl, rfl, rfl, w0⟩ := open_int Tryz.underlying5 (hval 0 5 v0 rfl rfl) h0
  obtain ⟨a1, rfl, rfl, rfl, w1⟩ := open_string Tryz.underlying9 (hval 1 9 v1 rfl rfl) h1
  clear hA0 hval0
  obtain ⟨r, hr, rfl⟩ : ∃ r : Nat, r < 256 ∧ a0 = .ofNat r := by
    have w0' := w0
    have m0 : IntKind.u8.min = 0 := rfl
    have m1 : IntKind.u8.max = 255 := rfl
    simp [Lit.wf, m0, m1] at w0'
    exact ⟨a0.toNat, by omega, by simp only [Int.ofNat_eq_natCast]; omega⟩
  refine (walk r hr a1 W).mono fun e W' ⟨he, hg⟩ => ?_
  subst he
  exact ⟨_, rfl, post_of_same (pa := []) (pv := []) hW' (fun _ _ _ => (trodAll_cons_mk (shut_bool Tryz.underlying4 _) trodAll_mk0)) (fun sp _ => trodAll_cons_mk (shut_int Tryz.underlying5 w0) (trodAll_cons_mk (shut_string Tryz.underlying9 w1) trodAll_mk0)) (fun _ _ => rfl) rfl
    (hg.frame _) hg.2.1 (ok_one (by kernel_rfl) rfl (okWide_bool_mk Tryz.underlying4 _))⟩

theorem over : Rows.rulesNamedRow.holds Tryz.pinned (OpenSpec.ofChange Rows.rulesNamedSpec) :=
  OpenClaim.holds_of_wide 5 Tryz.f5 rfl rfl rfl rfl rfl rfl rfl ⟨rfl, rfl, rfl, rfl, rfl⟩ rfl rfl rfl rfl rfl (by kernel_rfl) Tryz.func5 (by kernel_rfl)
    (of_decide_eq_true (by kernel_rfl)) (by unfold Func.isWrapper; first | (rw [if_pos (by decide +kernel)]; kernel_rfl) | (rw [if_neg (by decide +kernel)]; exact ⟨rfl, rfl⟩))
    (fun os started H enc _ => lifted os started H enc)

/-- ████ THE STATEMENT ████ -/
theorem proved : Rows.RulesNamedSaid :=
  over
#print axioms proved
end Go.Proofs.YtgecccghlgpmjaaGreat.rulesNamed
