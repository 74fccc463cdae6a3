import Derived.Test.YtgecccghlgpmjaaGreatPg
import Derived.Test.YtgecccghlgpmjaaGreatRows
import Derived.WalkKit
import Derived.ProofKit
import Derived.OpenShut
import Derived.ShutString
import Derived.ChangeMaps5
import Derived.ChangeReads
import Derived.Deep.Frames
import Derived.Carry
import Derived.Test.YtgecccghlgpmjaaGreatChecked
namespace Go.Proofs.YtgecccghlgpmjaaGreat.rulesEnd
open Go.ChangeShapes Go.WideShapes Go.ChangeAt Go.RowKit
set_option linter.unusedVariables false
open Go.AI in
open Go.AI.Tryz in
theorem qvz : qjw Tryz.prog Go.AI.Tryz.CP ⟨12, Go.AI.Tryz.aw, .bool true⟩ := qrs 1000 (by unfold qs1; rw [← qnP]; exact Go.AI.Tryz.aw_true)
open Go.AI in
def M : List Fact := [⟨12, Go.AI.Tryz.aw, .bool true⟩]
open Go.AI in
theorem M_ok : ∀ x ∈ M, qjw Tryz.prog Go.AI.Tryz.CP x := by
 intro x hx
 simp only [M, List.mem_cons, List.not_mem_nil, or_false] at hx
 subst hx
 exact qvz
theorem own : ownKnob Tryz.prog.godebug = none := by kernel_rfl
theorem qvL : laidOutB Tryz.prog = true := by kernel_rfl
open Go.AI in
theorem lw (n : Nat) : Go.AI.Tryz.Lw n (qej M (qae Go.AI.Tryz.CP n [])) := by
 refine ⟨fun f args s hf => qmE ?_ args s, fun s => ?_⟩
 ·have : Nat.beq 12 f = false := by
   cases h : Nat.beq 12 f with
   | false => rfl
   | true => exact absurd (Nat.eq_of_beq_eq_true h).symm hf
  simp only [M, qjL, this, Bool.not_false, Bool.and_self]
 ·rw [qbL, qjK]; rfl
open Go.AI in
theorem walk (a : Ar) (t : Tm) (k : Nat) (hk : k < 65536) (oa : a.Ok) (ok : t.Ok) (w : World) (v0 v1 : Value) (h0 : VR G00 w a.v v0) (h1 : VR G00 w t.v v1) :
  Calls Tryz.prog 9 #[v0, v1, .int .u16 (.ofNat k)] w fun e w' => e = .returned (.bool true) ∧ Grown w w' := by
 obtain ⟨N, hN⟩ := Go.AI.Tryz.end_ev a t k hk oa ok
 obtain ⟨s', hs⟩ := hN N (Nat.le_refl _) _ (lw N)
 exact qpT (CP := Go.AI.Tryz.CP) Go.AI.Tryz.pk M_ok (n := N) (cf := Go.AI.Tryz.cf9) (args := [a.v, t.v, Go.AI.Tryz.u16 k]) (s' := s') (by kernel_rfl) (by kernel_rfl) (of_decide_eq_true (by kernel_rfl)) (VRs.cons h0 (VRs.cons h1 (VRs.cons (VR.int .u16 (.ofNat k)) VRs.nil))) ((Go.AI.Tryz.s9_eq _ _ _ _ _ _).trans hs)
theorem qm2 {w w' : World} (h : w.keptBut w' fun _ => False) {i : Nat} (hi : i < w.heap.size) : w'.heap[i]? = w.heap[i]? := by
 have hk := h.2.2 i hi
 split at hk
 ·rename_i e1 e2
  obtain ⟨rfl, rfl, hs, hc⟩ := hk
  rw [e1, e2]
  congr 2
  refine Array.ext hs fun j h1 h2 => ?_
  have := hc j (fun h => h)
  rw [Array.getElem?_eq_getElem h1, Array.getElem?_eq_getElem h2, Option.some.injEq] at this
  exact this
 ·rename_i e1 e2
  rcases hk with h | ⟨rfl, rfl⟩
  ·exact h.elim
  ·rw [e1, e2]
 ·exact hk
theorem qpd {w w' : World} (h : w.keptBut w' fun _ => False) {p : MemPlace} (hb : p.block < w.heap.size) : w.sameAt w' p := by
 cases p with
 | cell b o => exact h.cell hb (fun h => h)
 | map b => exact qm2 h hb
set_option maxRecDepth 100000 in
theorem lifted (os : Os) (started : os.Started) (H : Type) (enc : TypeId × Value → H) :
  ReturnsInHanded {} Tryz.checked os 9 .any (Rows.rulesEndSpec.pre6 enc Tryz.prog Tryz.f9 Rows.rulesEndRow.domain false) (Rows.rulesEndSpec.post enc Tryz.prog Tryz.f9 false true false false) := by
 refine returnsInHanded_of_change (C := Tryz.checked) own started (by kernel_rfl) Tryz.func9
  (ChangeSpec.witness6 (enc := enc) (C := Tryz.checked) false ⟨#[], #[.agg #[.slice none 0 0, .bool false, .int .i64 0, .bool false], .agg #[.int .u8 0, .int .i64 0, .int .i64 0, .int .i64 0, .slice none 0 0], .int .u16 0], []⟩ 8 (by kernel_rfl) (by kernel_rfl) (by kernel_rfl) (by kernel_rfl)) ?_
 intro W base args ds gs before hval0 hW hcnd _
 have hval : ∀ (j : Nat) t v, Tryz.f9.params[j]? = some t → args[j]? = some v → Value.okWide Tryz.prog W .any base t v := hval0
 have hW' := hW
 obtain ⟨p, q, hA0, hV, rfl, hfz, hnd⟩ := hW
 have hA : DataW.TrodAll enc Tryz.prog W 0 (fun _ => true) true Tryz.f9.params.toList args.toList ds p := hA0
 rw [Tryz.params9] at hA hval
 obtain ⟨v0, vs0, d0, ds0, p0, q0, hargs, rfl, rfl, h0, r0⟩ := trodAll_cons hA
 obtain ⟨v1, vs1, d1, ds1, p1, q1, rfl, rfl, rfl, h1, r1⟩ := trodAll_cons r0
 obtain ⟨v2, vs2, d2, ds2, p2, q2, rfl, rfl, rfl, h2, r2⟩ := trodAll_cons r1
 obtain ⟨rfl, rfl, rfl⟩ := trodAll_nil r2
 obtain rfl : args = #[v0, v1, v2] := by cases args; simp_all
 obtain ⟨rfl, rfl⟩ := trodVars_none hV
 obtain ⟨n0, c0, t0, u0⟩ := Go.AI.Tryz.arg_told Go.AI.Tryz.lawTs_ok Go.AI.Tryz.m26 Tryz.underlying26 (hval 0 26 v0 rfl rfl) h0
 obtain ⟨a, rfl, oa⟩ := Go.AI.Tryz.has_ar t0
 obtain ⟨n1, c1, t1, u1⟩ := Go.AI.Tryz.arg_told Go.AI.Tryz.lawTs_ok Go.AI.Tryz.m29 Tryz.underlying29 (hval 1 29 v1 rfl rfl) h1
 obtain ⟨t, rfl, ok⟩ := Go.AI.Tryz.has_tm _ _ t1
 obtain ⟨x, rfl, rfl, rfl, w2⟩ := open_int Tryz.underlying58 (hval 2 58 v2 rfl rfl) h2
 obtain ⟨k, hk, rfl⟩ : ∃ k : Nat, k < 65536 ∧ x = .ofNat k := by
  have := Go.AI.wf16 w2
  exact ⟨x.toNat, by omega, by simp only [Int.ofNat_eq_natCast]; omega⟩
 clear hA0 hval0
 have hlt0 : ∀ y ∈ p0, y.block < W.heap.size := fun y hy => hW'.lt y (by simp [hy])
 have hlt1 : ∀ y ∈ p1, y.block < W.heap.size := fun y hy => hW'.lt y (by simp [hy])
 refine (walk a t k hk oa ok W v0 v1 u0 u1).mono fun e W' ⟨he, hg⟩ => ?_
 subst he
 have T0 : ∀ sp : Nat → Bool, (∀ y ∈ p0, sp y.block = true) → DataW.Trod enc Tryz.prog W' 0 sp true 26 v0 d0 p0 := fun sp hsp =>
  WideElems.Trod_stays (P := Tryz.prog) qvL (by kernel_rfl) (of_decide_eq_true (by kernel_rfl)) h0 (fun y hy => qpd hg.1 (hlt0 y hy)) hsp
 have T1 : ∀ sp : Nat → Bool, (∀ y ∈ p1, sp y.block = true) → DataW.Trod enc Tryz.prog W' 0 sp true 29 v1 d1 p1 := fun sp hsp =>
  WideElems.Trod_stays (P := Tryz.prog) qvL (by kernel_rfl) (of_decide_eq_true (by kernel_rfl)) h1 (fun y hy => qpd hg.1 (hlt1 y hy)) hsp
 exact ⟨_, rfl, post_of_same (pa := p0 ++ (p1 ++ ([] ++ []))) (pv := []) hW' (fun _ _ _ => (trodAll_cons_mk (shut_bool Tryz.underlying4 _) trodAll_mk0)) (fun sp hsp => trodAll_cons_mk (T0 sp fun y hy => hsp y (by simp [hy])) (trodAll_cons_mk (T1 sp fun y hy => hsp y (by simp [hy])) (trodAll_cons_mk (shut_int Tryz.underlying58 w2) trodAll_mk0))) (fun _ _ => rfl) (by simp)
  (hg.frame _) hg.2.1 (ok_one (by kernel_rfl) rfl (okWide_bool_mk Tryz.underlying4 _))⟩
theorem over : Rows.rulesEndRow.holds Tryz.pinned (OpenSpec.ofChange Rows.rulesEndSpec) :=
 OpenClaim.holds_of_wide 9 Tryz.f9 rfl rfl rfl rfl rfl rfl rfl ⟨rfl, rfl, rfl, rfl, rfl⟩ rfl rfl rfl rfl rfl (by kernel_rfl) Tryz.func9 (by kernel_rfl)
  (of_decide_eq_true (by kernel_rfl)) (by unfold Func.isWrapper; first | (rw [if_pos (by decide +kernel)]; kernel_rfl) | (rw [if_neg (by decide +kernel)]; exact ⟨rfl, rfl⟩))
  (fun os started H enc _ => lifted os started H enc)
theorem proved : Rows.RulesEndSaid :=
 over
end Go.Proofs.YtgecccghlgpmjaaGreat.rulesEnd
