/- RulesAlls: what all rules, and what any of them, make of any term in any arena, and the logs, are as the document says, or the errors are: for qcx arena, qcx term and any rules. No condition. -/
import Derived.Test.YtgecccghlgpmjaaGreatPf
import Derived.Test.YtgecccghlgpmjaaGreatRows
import Derived.WalkKit
import Derived.ProofKit
import Derived.OpenShut
import Derived.ShutString
import Derived.ChangeMaps5
import Derived.ChangeReads
import Derived.Deep.Frames
import Derived.Carry
import Derived.Test.YtgecccghlgpmjaaGreatChecked
namespace Go.Proofs.YtgecccghlgpmjaaGreat.rulesAlls
open Go.ChangeShapes Go.WideShapes Go.ChangeAt Go.RowKit
set_option linter.unusedVariables false
open Go.AI in
open Go.AI.Tryz in
theorem qxY : qkB Tryz.prog Go.AI.Tryz.CP ⟨12, Go.AI.Tryz.aw, .bool true⟩ := qtl 1000 (by unfold qvc; rw [← qpc]; exact Go.AI.Tryz.aw_true)
open Go.AI in
def M : List Fact := [⟨12, Go.AI.Tryz.aw, .bool true⟩]
open Go.AI in
theorem M_ok : ∀ x ∈ M, qkB Tryz.prog Go.AI.Tryz.CP x := by
  intro x hx
  simp only [M, List.mem_cons, List.not_mem_nil, or_false] at hx
  subst hx
  exact qxY
theorem own : ownKnob Tryz.prog.godebug = none := by kernel_rfl
theorem qxZ : laidOutB Tryz.prog = true := by kernel_rfl
open Go.AI in
theorem lw (n : Nat) : Go.AI.Tryz.Lw n (qe9 M (qag Go.AI.Tryz.CP n [])) := by
  refine ⟨fun f args s hf => qnY ?_ args s, fun s => ?_⟩
  · have : Nat.beq 12 f = false := by
      cases h : Nat.beq 12 f with
      | false => rfl
      | true => exact absurd (Nat.eq_of_beq_eq_true h).symm hf
    simp only [M, qkP, this, Bool.not_false, Bool.and_self]
  · rw [qb4, qkO]; rfl
open Go.AI in
theorem walk (a : Ar) (t : Tm) (x : List Int) (oa : a.Ok) (ok : t.Ok) (w : World) (v0 v1 v2 : Value) (h0 : VR G00 w a.v v0) (h1 : VR G00 w t.v v1) (h2 : VR G00 w (Go.AI.Tryz.u8s x) v2) :
    Calls Tryz.prog 3 #[v0, v1, v2] w fun e w' => e = .returned (.bool true) ∧ Grown w w' := by
  obtain ⟨N, hN⟩ := Go.AI.Tryz.alls_ev a t x oa ok
  obtain ⟨s', hs⟩ := hN N (Nat.le_refl _) _ (lw N)
  exact qrw (CP := Go.AI.Tryz.CP) Go.AI.Tryz.pk M_ok (n := N) (cf := Go.AI.Tryz.cf3) (args := [a.v, t.v, Go.AI.Tryz.u8s x]) (s' := s') (by kernel_rfl) (by kernel_rfl) (of_decide_eq_true (by kernel_rfl)) (VRs.cons h0 (VRs.cons h1 (VRs.cons h2 VRs.nil))) ((Go.AI.Tryz.s3_eq _ _ _ _ _ _).trans hs)
/-- What was there is as it was. -/
theorem qop {w w' : World} (h : w.keptBut w' fun _ => False) {i : Nat} (hi : i < w.heap.size) : w'.heap[i]? = w.heap[i]? := by
  have hk := h.2.2 i hi
  split at hk
  · rename_i e1 e2
    obtain ⟨rfl, rfl, hs, hc⟩ := hk
    rw [e1, e2]
    congr 2
    refine Array.ext hs fun j h1 h2 => ?_
    have := hc j (fun h => h)
    rw [Array.getElem?_eq_getElem h1, Array.getElem?_eq_getElem h2, Option.some.injEq] at this
    exact this
  · rename_i e1 e2
    rcases hk with h | ⟨rfl, rfl⟩
    · exact h.elim
    · rw [e1, e2]
  · exact hk
theorem qmi {w w' : World} (h : w.keptBut w' fun _ => False) {p : MemPlace} (hb : p.block < w.heap.size) : w.sameAt w' p := by
  cases p with
  | cell b o => exact h.cell hb (fun h => h)
  | map b => exact qop h hb
/-! ### THE ROW's STEP -/
set_option maxRecDepth 100000 in
theorem lifted (os : Os) (started : os.Started) (H : Type) (enc : TypeId × Value → H) :
    ReturnsInHanded {} Tryz.checked os 3 .any (Rows.rulesAllsSpec.pre6 enc Tryz.prog Tryz.f3 Rows.rulesAllsRow.domain false) (Rows.rulesAllsSpec.post enc Tryz.prog Tryz.f3 false true false false) := by
  refine returnsInHanded_of_change (C := Tryz.checked) own started (by kernel_rfl) Tryz.func3
    (ChangeSpec.witness6 (enc := enc) (C := Tryz.checked) false ⟨#[], #[.agg #[.slice none 0 0, .bool false, .int .i64 0, .bool false], .agg #[.int .u8 0, .int .i64 0, .int .i64 0, .int .i64 0, .slice none 0 0], .slice none 0 0], []⟩ 8 (by kernel_rfl) (by kernel_rfl) (by kernel_rfl) (by kernel_rfl)) ?_
  intro W base args ds gs before hval0 hW hcnd _
  have hval : ∀ (j : Nat) t v, Tryz.f3.params[j]? = some t → args[j]? = some v → Value.okWide Tryz.prog W .any base t v := hval0
  have hW' := hW
  obtain ⟨p, q, hA0, hV, rfl, hfz, hnd⟩ := hW
  have hA : DataW.TrodAll enc Tryz.prog W 0 (fun _ => true) true Tryz.f3.params.toList args.toList ds p := hA0
  rw [Tryz.params3] at hA hval
  obtain ⟨v0, vs0, d0, ds0, p0, q0, hargs, rfl, rfl, h0, r0⟩ := trodAll_cons hA
  obtain ⟨v1, vs1, d1, ds1, p1, q1, rfl, rfl, rfl, h1, r1⟩ := trodAll_cons r0
  obtain ⟨v2, vs2, d2, ds2, p2, q2, rfl, rfl, rfl, h2, r2⟩ := trodAll_cons r1
  obtain ⟨rfl, rfl, rfl⟩ := trodAll_nil r2
  obtain rfl : args = #[v0, v1, v2] := by cases args; simp_all
  obtain ⟨rfl, rfl⟩ := trodVars_none hV
  obtain ⟨n0, c0, t0, u0⟩ := Go.AI.Tryz.arg_told Go.AI.Tryz.lawTs_ok Go.AI.Tryz.m26 Tryz.underlying26 (hval 0 26 v0 rfl rfl) h0
  obtain ⟨a, rfl, oa⟩ := Go.AI.Tryz.has_ar t0
  obtain ⟨n1, c1, t1, u1⟩ := Go.AI.Tryz.arg_told Go.AI.Tryz.lawTs_ok Go.AI.Tryz.m29 Tryz.underlying29 (hval 1 29 v1 rfl rfl) h1
  obtain ⟨t, rfl, ok⟩ := Go.AI.Tryz.has_tm _ _ t1
  obtain ⟨n2, c2, t2, u2⟩ := Go.AI.Tryz.arg_sl Go.AI.Tryz.lawTr_ok Go.AI.Tryz.m30 Tryz.underlying30 (hval 2 30 v2 rfl rfl) h2
  obtain ⟨x, rfl⟩ := Go.AI.Tryz.has_u8s t2
  clear hA0 hval0
  have hlt0 : ∀ y ∈ p0, y.block < W.heap.size := fun y hy => hW'.lt y (by simp [hy])
  have hlt2 : ∀ y ∈ p2, y.block < W.heap.size := fun y hy => hW'.lt y (by simp [hy])
  have hlt1 : ∀ y ∈ p1, y.block < W.heap.size := fun y hy => hW'.lt y (by simp [hy])
  refine (walk a t x oa ok W v0 v1 v2 u0 u1 u2).mono fun e W' ⟨he, hg⟩ => ?_
  subst he
  have T0 : ∀ sp : Nat → Bool, (∀ y ∈ p0, sp y.block = true) → DataW.Trod enc Tryz.prog W' 0 sp true 26 v0 d0 p0 := fun sp hsp =>
    WideElems.Trod_stays (P := Tryz.prog) qxZ (by kernel_rfl) (of_decide_eq_true (by kernel_rfl)) h0 (fun y hy => qmi hg.1 (hlt0 y hy)) hsp
  have T1 : ∀ sp : Nat → Bool, (∀ y ∈ p1, sp y.block = true) → DataW.Trod enc Tryz.prog W' 0 sp true 29 v1 d1 p1 := fun sp hsp =>
    WideElems.Trod_stays (P := Tryz.prog) qxZ (by kernel_rfl) (of_decide_eq_true (by kernel_rfl)) h1 (fun y hy => qmi hg.1 (hlt1 y hy)) hsp
  have T2 : ∀ sp : Nat → Bool, (∀ y ∈ p2, sp y.block = true) → DataW.Trod enc Tryz.prog W' 0 sp true 30 v2 d2 p2 := fun sp hsp =>
    WideElems.Trod_stays (P := Tryz.prog) qxZ (by kernel_rfl) (of_decide_eq_true (by kernel_rfl)) h2 (fun y hy => qmi hg.1 (hlt2 y hy)) hsp
  exact ⟨_, rfl, post_of_same (pa := p0 ++ (p1 ++ (p2 ++ []))) (pv := []) hW' (fun _ _ _ => (trodAll_cons_mk (shut_bool Tryz.underlying4 _) trodAll_mk0)) (fun sp hsp => trodAll_cons_mk (T0 sp fun y hy => hsp y (by simp [hy])) (trodAll_cons_mk (T1 sp fun y hy => hsp y (by simp [hy])) (trodAll_cons_mk (T2 sp fun y hy => hsp y (by simp [hy])) trodAll_mk0))) (fun _ _ => rfl) (by simp)
    (hg.frame _) hg.2.1 (ok_one (by kernel_rfl) rfl (okWide_bool_mk Tryz.underlying4 _))⟩
theorem over : Rows.rulesAllsRow.holds Tryz.pinned (OpenSpec.ofChange Rows.rulesAllsSpec) :=
  OpenClaim.holds_of_wide 3 Tryz.f3 rfl rfl rfl rfl rfl rfl rfl ⟨rfl, rfl, rfl, rfl, rfl⟩ rfl rfl rfl rfl rfl (by kernel_rfl) Tryz.func3 (by kernel_rfl)
    (of_decide_eq_true (by kernel_rfl)) (by unfold Func.isWrapper; first | (rw [if_pos (by decide +kernel)]; kernel_rfl) | (rw [if_neg (by decide +kernel)]; exact ⟨rfl, rfl⟩))
    (fun os started H enc _ => lifted os started H enc)
/-- ████ THE STATEMENT ████ -/
theorem proved : Rows.RulesAllsSaid :=
  over
#print axioms proved
end Go.Proofs.YtgecccghlgpmjaaGreat.rulesAlls
