/- Part 2 of an interpreter for the code of the model, proved sound: pure operations are sound. No condition. -/
import Derived.Test.YtgecccghlgpmjaaGreatAi1
import Derived.Laws.Tables
import Derived.Laws.Concat
import Derived.Laws.Cover3
import Derived.Great.BuildSlice
set_option linter.unusedVariables false
set_option linter.unusedSimpArgs false
/- The operations that look at the frame alone. -/
namespace Go.AI
variable {P : Program} {G : Gh} {w : World}

/-! ### What a value must be -/
theorem VR.bool_inv {b : Bool} {v : Value} (h : VR G w (.p (.bool b)) v) : v = .bool b := by cases h with | p _ _ h => cases h; rfl
theorem VR.int_inv {k : IntKind} {n : Int} {v : Value} (h : VR G w (.p (.int k n)) v) : v = .int k n := by cases h with | p _ _ h => cases h; rfl
theorem VR.str_inv {s : ByteArray} {v : Value} (h : VR G w (.p (.str s)) v) : v = .string s := by cases h with | p _ _ h => cases h; rfl
theorem VR.bool (b : Bool) : VR G w (.p (.bool b)) (.bool b) := .p _ _ (.bool b)
theorem VR.int (k : IntKind) (n : Int) : VR G w (.p (.int k n)) (.int k n) := .p _ _ (.int k n)
theorem VR.str (s : ByteArray) : VR G w (.p (.str s)) (.string s) := .p _ _ (.str s)
theorem VR.undef : VR G w undefA undef := .tuple [] #[] rfl (fun i c v h _ => by simp at h)
theorem PR.nil_row' {S : Nat → Nat → Prop} (a : Option Addr) (cap : Nat) : PR S w (.sl 0 []) (.slice a 0 cap) :=
    .sl 0 [] a cap [] (Nat.zero_le _) rfl ⟨fun _ => rfl, fun _ => rfl⟩ (fun _ h => by cases h) (fun i v h => by simp at h) (fun i c v h => by simp at h)
theorem row_inv {x : AVal} {n : Nat} {cs : List PVal} {v : Value} (hx : rowOf x = some (n, cs)) (h : VR G w x v) : ∃ a cap, v = .slice a n cap ∧ PR G.S w (.sl n cs) (.slice a n cap) := by
  cases x with
  | p c =>
    cases c <;> try (cases hx; done)
    · simp only [rowOf, Option.some.injEq, Prod.mk.injEq] at hx
      obtain ⟨rfl, rfl⟩ := hx
      cases h with | p _ _ h => 
      cases h with
      | sl _ _ a cap vs hn hl hz h1 hc h => exact ⟨a, cap, rfl, .sl _ _ a cap vs hn hl hz h1 hc h⟩
    · simp only [rowOf, Option.some.injEq, Prod.mk.injEq] at hx
      obtain ⟨rfl, rfl⟩ := hx
      cases h with | p _ _ h => 
      cases h with
      | nilSl cap => exact ⟨none, cap, rfl, PR.nil_row' _ _⟩
    · simp only [rowOf, Option.some.injEq, Prod.mk.injEq] at hx
      obtain ⟨rfl, rfl⟩ := hx
      cases h with | p _ _ h => 
      cases h with
      | emSl a cap => exact ⟨some a, cap, rfl, PR.nil_row' _ _⟩
  | sl m ds t =>
    simp only [rowOf, Option.some.injEq, Prod.mk.injEq] at hx
    obtain ⟨rfl, rfl⟩ := hx
    cases h with
    | full _ _ a h => exact ⟨a, _, rfl, h⟩
    | own _ _ _ a cap h _ => exact ⟨a, cap, rfl, h⟩
  | _ => cases hx
theorem PR.one {S : Nat → Nat → Prop} {c : PVal} {v : Value} (h : PR S w c v) (hc : ∀ cs, c ≠ .agg cs) : v.oneCell' = true := by
  cases h <;> try rfl
  exact absurd rfl (hc _)
theorem pure1_ok {x : AVal} {c : PVal} {v : Value} (hx : AVal.pure1 x = some c) (h : VR G w x v) : PR G.S w c v ∧ v.oneCell' = true := by
  cases x with
  | p d =>
    cases d <;> simp only [AVal.pure1, Option.some.injEq] at hx
    all_goals first
      | cases hx; done
      | (subst hx
         cases h with | p _ _ h => exact ⟨h, h.one (fun _ e => by cases e)⟩)
  | sl n cs t =>
    simp only [AVal.pure1, Option.some.injEq] at hx
    subst hx
    cases h with
    | full _ _ a h => exact ⟨h, rfl⟩
    | own _ _ _ a cap h _ => exact ⟨h, rfl⟩
  | _ => cases hx
theorem pures_ok : ∀ {xs : List AVal} {cs : List PVal}, pures xs = some cs → cs.length = xs.length ∧ ∀ (j : Nat) x c, xs[j]? = some x → cs[j]? = some c → AVal.pure1 x = some c
  | [], cs, h => by
    simp only [pures, Option.some.injEq] at h
    subst h
    exact ⟨rfl, fun j x c h => by simp at h⟩
  | x :: xs, cs, h => by
    simp only [pures, Option.bind_eq_some_iff, Option.map_eq_some_iff] at h
    obtain ⟨c, hc, ds, hds, rfl⟩ := h
    obtain ⟨h1, h2⟩ := pures_ok hds
    refine ⟨by simp [h1], fun j y d hy hd => ?_⟩
    cases j with
    | zero =>
      simp only [List.getElem?_cons_zero, Option.some.injEq] at hy hd
      subst hy; subst hd; exact hc
    | succ j => exact h2 j y d (by simpa using hy) (by simpa using hd)

/-- A list of values, element by element. -/
def VRs (G : Gh) (w : World) (cs : List AVal) (vs : List Value) : Prop := cs.length = vs.length ∧ ∀ (i : Nat) c v, cs[i]? = some c → vs[i]? = some v → VR G w c v
theorem VRs.nil : VRs G w [] [] := ⟨rfl, fun i c v h => by simp at h⟩
theorem VRs.cons {c : AVal} {v : Value} {cs : List AVal} {vs : List Value} (h : VR G w c v) (hs : VRs G w cs vs) : VRs G w (c :: cs) (v :: vs) := by
  refine ⟨by simp [hs.1], fun i d u hd hu => ?_⟩
  cases i with
  | zero =>
    simp only [List.getElem?_cons_zero, Option.some.injEq] at hd hu
    subst hd; subst hu; exact h
  | succ i => exact hs.2 i d u (by simpa using hd) (by simpa using hu)
theorem VRs.ext {G' : Gh} {w' : World} (x : Ext G w G' w') {cs : List AVal} {vs : List Value} (h : VRs G w cs vs) : VRs G' w' cs vs := ⟨h.1, fun i c v hc hv => (h.2 i c v hc hv).ext x⟩
theorem VRs.append {cs ds : List AVal} {vs us : List Value} (h : VRs G w cs vs) (k : VRs G w ds us) : VRs G w (cs ++ ds) (vs ++ us) := by
  refine ⟨by simp [h.1, k.1], fun i c v hc hv => ?_⟩
  by_cases hi : i < cs.length
  · rw [List.getElem?_append_left hi] at hc
    rw [List.getElem?_append_left (by rw [← h.1]; exact hi)] at hv
    exact h.2 i c v hc hv
  · rw [List.getElem?_append_right (by omega)] at hc
    rw [List.getElem?_append_right (by rw [← h.1]; omega), ← h.1] at hv
    exact k.2 _ c v hc hv

theorem VR.one {x : AVal} {v : Value} (h : VR G w x v) (h1 : ∀ cs, x ≠ .agg cs) (h2 : ∀ cs, x ≠ .tuple cs) (h3 : x ≠ .junk) (h4 : ∀ cs, x ≠ .p (.agg cs)) : v.oneCell' = true := by
  cases h with
  | p c v h => exact h.one fun cs e => h4 cs (by rw [e])
  | agg cs => exact absurd rfl (h1 _)
  | tuple cs => exact absurd rfl (h2 _)
  | junk => exact absurd rfl h3
  | _ => rfl

/-- The cells of a value. -/
theorem cells_ok {n : Option Nat} {x : AVal} {cs : List AVal} {v : Value} (hx : AVal.cells n x = some cs) (h : VR G w x v) :
    cs.length = cnt n ∧ VRs G w cs v.cells.toList ∧ (∀ u ∈ v.cells, u.oneCell' = true) ∧ (n = none → v.cells = #[v] ∧ v.oneCell' = true) ∧ (∀ m, n = some m → ∃ us, v = .agg us) := by
  cases n with
  | some m =>
    cases x <;> try (cases hx; done)
    rename_i ds
    simp only [AVal.cells] at hx
    cases hb : Nat.beq ds.length m with
    | false => rw [hb] at hx; cases hx
    | true =>
      rw [hb] at hx
      simp only [cond_true, Option.some.injEq] at hx
      subst hx
      cases h with
      | agg _ vs hl h1 h =>
        exact ⟨beq_iff.1 hb, ⟨by rw [Array.length_toList]; exact hl, fun i c v hc hv => h i c v hc (by rw [Array.getElem?_toList] at hv; exact hv)⟩, h1, (fun e => by cases e), fun _ _ => ⟨_, rfl⟩⟩
  | none =>
    have key : cs = [x] ∧ v.oneCell' = true := by
      cases x with
      | agg => cases hx
      | tuple => cases hx
      | junk => cases hx
      | p c =>
        cases c with
        | agg => cases hx
        | _ =>
          simp only [AVal.cells, Option.some.injEq] at hx
          exact ⟨hx.symm, h.one (fun _ e => by cases e) (fun _ e => by cases e) (fun e => by cases e) (fun _ e => by cases e)⟩
      | _ =>
        simp only [AVal.cells, Option.some.injEq] at hx
        exact ⟨hx.symm, h.one (fun _ e => by cases e) (fun _ e => by cases e) (fun e => by cases e) (fun _ e => by cases e)⟩
    obtain ⟨rfl, h1⟩ := key
    have hv : v.cells = #[v] := by cases v <;> first | rfl | cases h1
    refine ⟨rfl, ?_, ?_, fun _ => ⟨hv, h1⟩, fun m e => by cases e⟩
    · rw [hv]; exact VRs.nil.cons h
    · rw [hv]; simpa using h1
theorem ofCells_ok {n : Option Nat} {x : AVal} {cs : List AVal} {vs : List Value} (hx : AVal.ofCells n cs = some x) (h : VRs G w cs vs) (h1 : ∀ u ∈ vs, u.oneCell' = true) :
    (n = none → ∃ v, vs = [v] ∧ VR G w x v) ∧ (∀ m, n = some m → VR G w x (.agg vs.toArray)) := by
  cases n with
  | some m =>
    simp only [AVal.ofCells, Option.some.injEq] at hx
    subst hx
    refine ⟨(fun e => by cases e), fun _ _ => .agg cs vs.toArray (by simpa using h.1) (by simpa using h1) fun i c v hc hv => h.2 i c v hc (by simpa using hv)⟩
  | none =>
    refine ⟨fun _ => ?_, fun m e => by cases e⟩
    match cs, hx with
    | [c], hx =>
      simp only [AVal.ofCells, Option.some.injEq] at hx
      subst hx
      match vs, h with
      | [v], h => exact ⟨v, rfl, h.2 0 c v rfl rfl⟩
      | [], h => simp [VRs] at h
      | _ :: _ :: _, h => simp [VRs] at h

/-! ### Constants and operands -/
theorem valP_ok {v : Value} {c : PVal} (h : valP v = some c) (S : Nat → Nat → Prop) : PR S w c v ∧ (∀ cs, c ≠ .agg cs) := by
  unfold valP at h
  split at h <;> try (cases h; done)
  all_goals try (simp only [Option.some.injEq] at h; subst h)
  · exact ⟨.bool _, fun _ e => by cases e⟩
  · exact ⟨.int _ _, fun _ e => by cases e⟩
  · exact ⟨.str _, fun _ e => by cases e⟩
  · exact ⟨.nilp, fun _ e => by cases e⟩
  · exact ⟨.nilFunc, fun _ e => by cases e⟩
  · exact ⟨.nilMap, fun _ e => by cases e⟩
  · rename_i f a b
    cases hb : (a.isEmpty && b.isEmpty) with
    | false => rw [hb] at h; cases h
    | true =>
      rw [hb] at h
      simp only [cond_true, Option.some.injEq] at h
      subst h
      simp only [Bool.and_eq_true, Array.isEmpty_iff] at hb
      rw [hb.1, hb.2]
      exact ⟨.func f [] [] #[] #[] rfl rfl (fun i c v h => by simp at h) (fun i c v h => by simp at h), fun _ e => by cases e⟩
theorem PR.nil_row {S : Nat → Nat → Prop} (a : Option Addr) (cap : Nat) : PR S w (.sl 0 []) (.slice a 0 cap) :=
    .sl 0 [] a cap [] (Nat.zero_le _) rfl ⟨fun _ => rfl, fun _ => rfl⟩ (fun _ h => by cases h) (fun i v h => by simp at h) (fun i c v h => by simp at h)
theorem valA1_ok {v : Value} {x : AVal} (h : valA1 v = some x) : VR G w x v ∧ v.oneCell' = true ∧ away1 x = true := by
  unfold valA1 at h
  split at h
  · simp only [Option.some.injEq] at h
    subst h
    exact ⟨.full 0 [] none (PR.nil_row _ _), rfl, rfl⟩
  · simp only [Option.map_eq_some_iff] at h
    obtain ⟨c, hc, rfl⟩ := h
    obtain ⟨h1, h2⟩ := valP_ok (w := w) hc G.S
    exact ⟨.p _ _ h1, h1.one h2, rfl⟩
theorem valAs_ok : ∀ {vs : List Value} {xs : List AVal}, valAs vs = some xs → VRs G w xs vs ∧ (∀ v ∈ vs, v.oneCell' = true) ∧ xs.all away1 = true
  | [], xs, h => by
    simp only [valAs, Option.some.injEq] at h
    subst h
    exact ⟨.nil, fun _ h => (by cases h), rfl⟩
  | v :: r, xs, h => by
    simp only [valAs, Option.bind_eq_some_iff, Option.map_eq_some_iff] at h
    obtain ⟨x, hx, ys, hys, rfl⟩ := h
    obtain ⟨h1, h2, h3⟩ := valA1_ok (G := G) (w := w) hx
    obtain ⟨h4, h5, h6⟩ := valAs_ok hys
    refine ⟨h4.cons h1, fun u hu => ?_, by simp [h3, h6]⟩
    rcases List.mem_cons.1 hu with rfl | hu
    · exact h2
    · exact h5 u hu
theorem valA_ok {v : Value} {x : AVal} (h : valA v = some x) : VR G w x v := by
  unfold valA at h
  split at h
  · rename_i cs
    simp only [Option.map_eq_some_iff] at h
    obtain ⟨ys, hys, rfl⟩ := h
    obtain ⟨h1, h2, _⟩ := valAs_ok (G := G) (w := w) hys
    exact .agg ys cs (by simpa using h1.1) (by simpa using h2) fun i c v hc hv => h1.2 i c v hc (by simpa using hv)
  · rename_i vs
    cases hb : vs.isEmpty with
    | false => rw [hb] at h; cases h
    | true =>
      rw [hb] at h
      simp only [cond_true, Option.some.injEq] at h
      subst h
      rw [Array.isEmpty_iff.1 hb]
      exact .undef
  · exact (valA1_ok h).1
/-- The operand's value, by the frame's relation at the temporaries that count. -/
def ReadsOK (G : Gh) (w : World) (f : Tr AVal) (a : Act) (ts : List Nat) : Prop := ∀ t ∈ ts, VR G w (f.get undefA t) (a.tmps.getD t undef)
theorem arg_ok {f : Tr AVal} {a : Act} {x : Operand} {g : Arg} (h : cArg x = some g) (hr : ReadsOK G w f a g.tmps) : VR G w (g.ev f) (a.eval x) := by
  cases x with
  | tmp t =>
    simp only [cArg, Option.some.injEq] at h
    subst h
    exact hr t (by simp [Arg.tmps])
  | const v =>
    simp only [cArg, Option.map_eq_some_iff] at h
    obtain ⟨y, hy, rfl⟩ := h
    exact valA_ok hy
  | global g => cases h
  | func f =>
    simp only [cArg, Option.some.injEq] at h
    subst h
    exact .p _ _ (.func f [] [] #[] #[] rfl rfl (fun i c v h => by simp at h) (fun i c v h => by simp at h))
theorem args_ok {f : Tr AVal} {a : Act} : ∀ {xs : List Operand} {gs : List Arg}, cArgs xs = some gs → ReadsOK G w f a (gs.flatMap Arg.tmps) → VRs G w (gs.map (Arg.ev f)) (xs.map a.eval)
  | [], gs, h, _ => by
    simp only [cArgs, Option.some.injEq] at h
    subst h
    exact .nil
  | x :: xs, gs, h, hr => by
    simp only [cArgs, Option.bind_eq_some_iff, Option.map_eq_some_iff] at h
    obtain ⟨g, hg, ys, hys, rfl⟩ := h
    simp only [List.map_cons]
    exact .cons (arg_ok hg fun t ht => hr t (by simp [ht])) (args_ok hys fun t ht => hr t (by
      simp only [List.flatMap_cons, List.mem_append]
      exact .inr ht))
end Go.AI

/- Each operation that looks at the frame alone. -/
namespace Go.AI
variable {P : Program} {G : Gh} {w : World} {f : Tr AVal} {a : Act} {o : Oper} {lof : Nat → Option Nat} {dr : Bool} {i : Ins} {v : AVal}

def PureOK (P : Program) (G : Gh) (w : World) (o : Oper) (a : Act) (v : AVal) : Prop :=
  ∃ u w', (execOp a.eval o).run P w = .ok (.value u) w' ∧ Keep w w' ∧ VR G w' v u
theorem PureOK.now {u : Value} (h : (execOp a.eval o).run P w = .ok (.value u) w) (hv : VR G w v u) : PureOK P G w o a v := ⟨u, w, h, Keep.refl w, hv⟩
theorem pure_of {s : Sem Value} {u : Value} {w' : World} (he : execOp a.eval o = (do pure (.value (← s)))) (hs : s.run P w = .ok u w') (k : Keep w w') (hv : VR G w' v u) : PureOK P G w o a v :=
  ⟨u, w', by rw [he, Sem.run_bind, hs]; rfl, k, hv⟩

theorem ok_move (x : Operand) (hop : o.op = .move x ∨ o.op = .assign x) {g : Arg} (hg : cArg x = some g) (hr : ReadsOK G w f a g.tmps) (hev : evPure f (.mov g) = some v) : PureOK P G w o a v := by
  simp only [evPure, Option.some.injEq] at hev
  subst hev
  refine .now ?_ (arg_ok hg hr)
  rcases hop with hop | hop
  · rw [exec_move x hop]; rfl
  · rw [exec_assign x hop]; rfl
theorem ok_pick (c x y : Operand) (hop : o.op = .pick c x y) {gc gx gy : Arg} (hc : cArg c = some gc) (hx : cArg x = some gx) (hy : cArg y = some gy)
    (hr : ReadsOK G w f a (gc.tmps ++ (gx.tmps ++ gy.tmps))) (hev : evPure f (.pick gc gx gy) = some v) : PureOK P G w o a v := by
  simp only [evPure] at hev
  have h1 := arg_ok hc fun t ht => hr t (by simp [ht])
  have h2 := arg_ok hx fun t ht => hr t (by simp [ht])
  have h3 := arg_ok hy fun t ht => hr t (by simp [ht])
  split at hev <;> try (cases hev; done)
  rename_i t ht
  simp only [Option.some.injEq] at hev
  rw [ht] at h1
  have hcv := h1.bool_inv
  refine .now (u := if t then a.eval x else a.eval y) ?_ ?_
  · rw [exec_pick c x y hop, hcv]; simp [asBool]
  · subst hev
    cases t
    · exact h3
    · exact h2
theorem ok_nck (x : Operand) (hop : o.op = .nilCheck x) {g : Arg} (hg : cArg x = some g) (hr : ReadsOK G w f a g.tmps) (hev : evPure f (.nck g) = some v) : PureOK P G w o a v := by
  have h1 := arg_ok hg hr
  simp only [evPure] at hev
  split at hev <;> try (cases hev; done)
  all_goals
    rename_i hx
    simp only [Option.some.injEq] at hev
    subst hev
    rw [hx] at h1
    cases hv : a.eval x <;> rw [hv] at h1 <;> try (cases h1; done)
    rename_i p
    refine .now (u := .pointer p) ?_ h1
    cases p with
    | none => cases h1
    | some p => rw [exec_nilCheck_ptr x hop p hv]; rfl

theorem binInt_ok {op : BinOp} {k : IntKind} {m n : Int} {c : PVal} (h : binInt op k m n = some c) (t : TypeId) : ∃ u, (binOp op t (.int k m) (.int k n)).run P w = .ok u w ∧ PR G.S w c u := by
  cases op <;> simp only [binInt, Option.some.injEq] at h <;> try (cases h; done)
  case quo =>
    rw [ieq_iff] at h
    by_cases h0 : n = 0
    · subst h0; simp at h
    · simp only [h0, decide_false, cond_false, Option.some.injEq] at h
      subst h
      exact ⟨_, by simp [binOp, Op.intDiv, h0]; rfl, by rw [wrapK_eq]; exact .int _ _⟩
  case rem =>
    rw [ieq_iff] at h
    by_cases h0 : n = 0
    · subst h0; simp at h
    · simp only [h0, decide_false, cond_false, Option.some.injEq] at h
      subst h
      exact ⟨_, by simp [binOp, Op.intDiv, h0], .int _ _⟩
  all_goals subst h
  case add => exact ⟨_, by simp [binOp, Op.intArith]; rfl, by rw [wrapK_eq]; exact .int _ _⟩
  case sub => exact ⟨_, by simp [binOp, Op.intArith]; rfl, by rw [wrapK_eq]; exact .int _ _⟩
  case mul => exact ⟨_, by simp [binOp, Op.intArith]; rfl, by rw [wrapK_eq]; exact .int _ _⟩
  case eql => exact ⟨.bool (decide (m = n)), by simp [binOp, Op.intCmp]; rfl, by rw [ieq_iff]; exact .bool _⟩
  case neq => exact ⟨.bool (!decide (m = n)), by simp [binOp, Op.intCmp]; rfl, by rw [ieq_iff]; exact .bool _⟩
  case lss => exact ⟨_, by simp [binOp, Op.intCmp]; rfl, by rw [ilt_iff]; exact .bool _⟩
  case gtr => exact ⟨_, by simp [binOp, Op.intCmp]; rfl, by rw [ilt_iff]; exact .bool _⟩
  case leq =>
    refine ⟨_, by simp [binOp, Op.intCmp]; rfl, ?_⟩
    rw [ilt_iff, show (!decide (n < m)) = decide (m ≤ n) by by_cases h : n < m <;> simp [h] <;> omega]
    exact .bool _
  case geq =>
    refine ⟨_, by simp [binOp, Op.intCmp]; rfl, ?_⟩
    rw [ilt_iff, show (!decide (m < n)) = decide (m ≥ n) by by_cases h : m < n <;> simp [h] <;> omega]
    exact .bool _

theorem str_ge (x y : ByteArray) : (!strLt y x) = (Op.bytesLess x.toList y.toList || x.toList == y.toList) ∧ (!strLt x y) = !Op.bytesLess x.toList y.toList := by
  have key : ∀ a b : List UInt8, (!bytesLt b a) = (bytesLt a b || a == b) := by
    intro a
    induction a with
    | nil => intro b; cases b <;> rfl
    | cons p a ih =>
      intro b
      cases b with
      | nil => rfl
      | cons q b =>
        simp only [bytesLt]
        rcases Nat.lt_trichotomy p.toNat q.toNat with h | h | h
        · have h1 : Nat.blt p.toNat q.toNat = true := blt_iff.2 h
          have h2 : Nat.blt q.toNat p.toNat = false := by
            cases e : Nat.blt q.toNat p.toNat with
            | false => rfl
            | true => exact absurd (blt_iff.1 e) (by omega)
          rw [h1, h2, beq_false (by omega : q.toNat ≠ p.toNat)]
          rfl
        · have h1 : Nat.blt p.toNat q.toNat = false := by
            cases e : Nat.blt p.toNat q.toNat with
            | false => rfl
            | true => exact absurd (blt_iff.1 e) (by omega)
          have h2 : Nat.blt q.toNat p.toNat = false := by
            cases e : Nat.blt q.toNat p.toNat with
            | false => rfl
            | true => exact absurd (blt_iff.1 e) (by omega)
          have hpq : p = q := UInt8.toNat_inj.1 h
          subst hpq
          rw [h1, beq_true rfl]
          simp only [cond_true, cond_false]
          rw [ih b]
          simp
        · have h1 : Nat.blt p.toNat q.toNat = false := by
            cases e : Nat.blt p.toNat q.toNat with
            | false => rfl
            | true => exact absurd (blt_iff.1 e) (by omega)
          have h2 : Nat.blt q.toNat p.toNat = true := blt_iff.2 h
          have hpq : p ≠ q := fun e => by subst e; omega
          rw [h1, h2, beq_false (by omega : p.toNat ≠ q.toNat)]
          simp [hpq]
  rw [ByteArray.toList_eq, ByteArray.toList_eq]
  unfold strLt
  rw [← bytesLt_iff]
  exact ⟨key _ _, rfl⟩

theorem binStr_ok {op : BinOp} {x y : ByteArray} {c : PVal} (h : binStr op x y = some c) (t : TypeId) : ∃ u, (binOp op t (.string x) (.string y)).run P w = .ok u w ∧ PR G.S w c u := by
  have hge := str_ge x y
  have hlt : strLt x y = Op.bytesLess x.toList y.toList := by rw [ByteArray.toList_eq, ByteArray.toList_eq]; exact bytesLt_iff _ _
  have heq : strEq x y = (x.toList == y.toList) := by
    rw [ByteArray.toList_eq, ByteArray.toList_eq]
    unfold strEq
    rw [bytesEq_iff]
    by_cases e : x.data.toList = y.data.toList
    · simp [e]
    · rw [decide_eq_false e]
      symm
      simpa using e
  cases op <;> simp only [binStr, Option.some.injEq] at h <;> try (cases h; done)
  case add =>
    rw [strLen_eq, strLen_eq] at h
    cases hb : Nat.blt (x.size + y.size) 140737488355328 with
    | false => rw [hb] at h; cases h
    | true =>
      rw [hb] at h
      simp only [cond_true, Option.some.injEq] at h
      subst h
      have := blt_iff.1 hb
      refine ⟨.string (x ++ y), ?_, ?_⟩
      · show (Op.stringOp .add x y).run P w = _
        exact run_string_add_sum w x y (by omega)
      · have : (⟨(x.data.toList ++ y.data.toList).toArray⟩ : ByteArray) = x ++ y := by
          apply ByteArray.ext
          rw [ByteArray.data_append]
          simp
        rw [this]; exact .str _
  all_goals subst h
  case eql => exact ⟨_, rfl, by rw [heq]; exact .bool _⟩
  case neq => exact ⟨_, rfl, by rw [heq]; exact .bool _⟩
  case lss => exact ⟨_, rfl, by rw [hlt]; exact .bool _⟩
  case leq => exact ⟨_, rfl, by rw [hge.1]; exact .bool _⟩
  case gtr =>
    refine ⟨_, rfl, ?_⟩
    have := hge.1
    rw [← this]
    simp only [Bool.not_not]
    exact .bool _
  case geq => exact ⟨_, rfl, by rw [hge.2]; exact .bool _⟩

theorem ok_bin (op : BinOp) (t u : TypeId) (x y : Operand) (hop : o.op = .binOp op t x y u) (hno : op ≠ .eql ∧ op ≠ .neq) {gx gy : Arg} (hx : cArg x = some gx) (hy : cArg y = some gy)
    (hr : ReadsOK G w f a (gx.tmps ++ gy.tmps)) (hev : evPure f (.bin op gx gy) = some v) : PureOK P G w o a v := by
  have h1 := arg_ok hx fun t ht => hr t (by simp [ht])
  have h2 := arg_ok hy fun t ht => hr t (by simp [ht])
  simp only [evPure, Option.map_eq_some_iff] at hev
  obtain ⟨c, hc, rfl⟩ := hev
  have hg : ∀ p q, (eqGuard op t x y p q).run P w = .ok () w := by
    intro p q
    cases op <;> first | rfl | exact absurd rfl hno.1 | exact absurd rfl hno.2
  have key : ∃ z, (binOp op t (a.eval x) (a.eval y)).run P w = .ok z w ∧ PR G.S w c z := by
    unfold evBin at hc
    split at hc
    · rename_i k p k' q e1 e2
      rw [e1] at h1; rw [e2] at h2
      rw [keq_iff] at hc
      by_cases hk : k = k'
      · subst hk
        simp only [decide_true, cond_true] at hc
        rw [h1.int_inv, h2.int_inv]
        exact binInt_ok hc t
      · simp only [hk, decide_false, cond_false] at hc
        cases hc
    · rename_i p q e1 e2
      rw [e1] at h1; rw [e2] at h2
      rw [h1.str_inv, h2.str_inv]
      exact binStr_ok hc t
    · cases hc
  obtain ⟨z, hz, hp⟩ := key
  exact pure_of (exec_binOp op t u x y hop) (by rw [Sem.run_bind, hg, Result.andThen_ok, hz]) (Keep.refl w) (.p _ _ hp)
end Go.AI

/- Operations that look at the frame alone: the second part. -/
namespace Go.AI
variable {P : Program} {G : Gh} {w : World} {f : Tr AVal} {a : Act} {o : Oper} {v : AVal}

theorem kindT_ok {t : TypeId} {k : Nat} (h : kindT P t = some k) : (k = 0 → P.underlying t = some .bool) ∧ (k = 1 → ∃ i, P.underlying t = some (.int i)) ∧ (k = 2 → P.underlying t = some .string) ∧
    (k = 3 → ∃ x y z, P.underlying t = some (.func x y z)) ∧ (k = 4 → ∃ e, P.underlying t = some (.pointer e)) ∧ (k = 5 → ∃ e, P.underlying t = some (.slice e)) := by
  unfold kindT at h
  split at h
  all_goals first
    | (cases h; done)
    | (injection h with h
       subst h
       rename_i hu
       refine ⟨?_, ?_, ?_, ?_, ?_, ?_⟩ <;> intro e <;> first | (cases e; done) | exact hu | exact ⟨_, hu⟩ | exact ⟨_, _, _, hu⟩)
theorem VR.nilFunc_inv {v : Value} (h : VR G w (.p .nilFunc) v) : v = .nilFunc := by cases h with | p _ _ h => cases h; rfl
theorem VR.nilp_inv {v : Value} (h : VR G w (.p .nilp) v) : v = .pointer none := by cases h with | p _ _ h => cases h; rfl
theorem VR.pfunc_inv {fn : Nat} {x y : List PVal} {v : Value} (h : VR G w (.p (.func fn x y)) v) : ∃ vs us, v = .func (.func fn) vs us := by cases h with | p _ _ h => cases h; exact ⟨_, _, rfl⟩
theorem VR.func_inv {fn : Nat} {x y : List AVal} {v : Value} (h : VR G w (.func fn x y) v) : ∃ vs us, v = .func (.func fn) vs us := by cases h; exact ⟨_, _, rfl⟩
theorem VR.ptr_inv {l o : Nat} {v : Value} (h : VR G w (.ptr l o) v) : ∃ b, v = .pointer (some ⟨b, o, none⟩) ∧ G.bOf l = some b := by cases h with | ptr _ _ b h => exact ⟨b, rfl, h⟩
theorem eqK_ok {t : TypeId} {k : Nat} (hk : kindT P t = some k) (h5 : k ≠ 5) {x y : AVal} {b : Bool} (h : eqK k x y = some b) {p q : Value} (hx : VR G w x p) (hy : VR G w y q) (d : Nat) :
    (Op.equalIn (d + 1) t p q).run P w = .ok b w := by
  obtain ⟨h0, h1, h2, h3, h4, _⟩ := kindT_ok hk
  unfold eqK at h
  split at h
  · split at h <;> try (cases h; done)
    simp only [Option.some.injEq] at h
    subst h
    rw [hx.bool_inv, hy.bool_inv, run_equalIn_bool' w d t _ _ (h0 rfl)]
    congr 1
    rename_i b1 b2
    cases b1 <;> cases b2 <;> rfl
  · split at h <;> try (cases h; done)
    rename_i i m j n
    rw [keq_iff] at h
    by_cases e : i = j
    · subst e
      simp only [decide_true, cond_true, Option.some.injEq] at h
      subst h
      obtain ⟨i', hi⟩ := h1 rfl
      rw [hx.int_inv, hy.int_inv, run_equalIn_int w d t _ i' _ _ hi, ieq_iff]
      rfl
    · simp only [e, decide_false, cond_false] at h
      cases h
  · split at h <;> try (cases h; done)
    simp only [Option.some.injEq] at h
    subst h
    rw [hx.str_inv, hy.str_inv, run_equalIn_string w d t _ _ (h2 rfl)]
    congr 1
    rename_i s1 s2
    rw [strEq_iff, ByteArray.toList_eq, ByteArray.toList_eq]
    by_cases e : s1 = s2
    · subst e; simp
    · have : s1.data.toList ≠ s2.data.toList := fun h => e (ByteArray.ext (Array.toList_inj.1 h))
      rw [decide_eq_false e]
      symm
      simpa using this
  · obtain ⟨u1, u2, u3, hu⟩ := h3 rfl
    split at h <;> try (cases h; done)
    · simp only [Option.some.injEq] at h
      subst h
      rw [hx.nilFunc_inv, hy.nilFunc_inv]
      simp [Op.equalIn, run_underlying hu]
    · simp only [Option.some.injEq] at h
      subst h
      obtain ⟨vs, us, e⟩ := hx.pfunc_inv
      rw [e, hy.nilFunc_inv]
      simp [Op.equalIn, run_underlying hu]
    · simp only [Option.some.injEq] at h
      subst h
      obtain ⟨vs, us, e⟩ := hx.func_inv
      rw [e, hy.nilFunc_inv]
      simp [Op.equalIn, run_underlying hu]
  · obtain ⟨u1, hu⟩ := h4 rfl
    split at h <;> try (cases h; done)
    · simp only [Option.some.injEq] at h
      subst h
      rw [hx.nilp_inv, hy.nilp_inv]
      simp [Op.equalIn, run_underlying hu]
    · simp only [Option.some.injEq] at h
      subst h
      obtain ⟨b, e, _⟩ := hx.ptr_inv
      rw [e, hy.nilp_inv]
      simp [Op.equalIn, run_underlying hu]
  · exact absurd rfl h5
  · cases h

theorem kindsF_ok : ∀ {fs : List Field} {off : Nat} {ks : List Nat} {xs ys : List AVal} {b : Bool} {ps qs : Array Value}, kindsF P fs off = some ks → eqAll ks xs ys = some b →
    (∀ (j : Nat) x p, xs[j]? = some x → ps[off + j]? = some p → VR G w x p) → (∀ (j : Nat) y q, ys[j]? = some y → qs[off + j]? = some q → VR G w y q) →
    off + xs.length = ps.size → off + ys.length = qs.size → ∀ d, (Op.eqFields (d + 1) ps qs fs).run P w = .ok b w
  | [], off, ks, xs, ys, b, ps, qs, hk, he, _, _, _, _, d => by
    simp only [kindsF, Option.some.injEq] at hk
    subst hk
    cases xs <;> cases ys <;> simp only [eqAll, Option.some.injEq] at he <;> try (cases he; done)
    subst he
    rfl
  | f :: fs, off, ks, xs, ys, b, ps, qs, hk, he, hx, hy, hp, hq, d => by
    unfold kindsF at hk
    cases hc : ((f.name != "_") && Nat.beq f.offset off) with
    | false => rw [hc] at hk; cases hk
    | true =>
      rw [hc] at hk
      simp only [cond_true, Option.bind_eq_some_iff] at hk
      obtain ⟨k, hkt, hk⟩ := hk
      simp only [Bool.and_eq_true, bne_iff_ne] at hc
      obtain ⟨hname, hoff⟩ := hc
      have hoff := beq_iff.1 hoff
      cases hl : Nat.blt k 3 with
      | false => rw [hl] at hk; cases hk
      | true =>
        rw [hl] at hk
        simp only [cond_true, Option.map_eq_some_iff] at hk
        obtain ⟨ks', hks, rfl⟩ := hk
        have hk3 := blt_iff.1 hl
        match xs, ys, he with
        | x :: xs, y :: ys, he =>
          simp only [eqAll, Option.bind_eq_some_iff] at he
          obtain ⟨c, hc1, hc2⟩ := he
          have hps : off < ps.size := by simp at hp; omega
          have hqs : off < qs.size := by simp at hq; omega
          have e1 : ps[off]? = some ps[off] := Array.getElem?_eq_getElem hps
          have e2 : qs[off]? = some qs[off] := Array.getElem?_eq_getElem hqs
          have hagg : ∃ u, P.underlying f.type = some u ∧ isAggD u = false := by
            obtain ⟨h0, h1, h2, h3, h4, _⟩ := kindT_ok hkt
            rcases (by omega : k = 0 ∨ k = 1 ∨ k = 2) with e | e | e
            · exact ⟨_, h0 e, rfl⟩
            · obtain ⟨i, hi⟩ := h1 e; exact ⟨_, hi, rfl⟩
            · exact ⟨_, h2 e, rfl⟩
          obtain ⟨u, hu, hua⟩ := hagg
          have hpart : ∀ (cs : Array Value) z, cs[off]? = some z → (part f.type cs f.offset).run P w = .ok z w := by
            intro cs z hz
            rw [hoff]
            cases u <;> simp only [isAggD] at hua <;> first | (cases hua; done) | simp [part, isAgg, run_underlying hu, hz]
          have hfield := eqK_ok hkt (by omega) hc1 (hx 0 x _ rfl e1) (hy 0 y _ rfl e2) d
          unfold Op.eqFields
          rw [if_pos hname]
          simp only [Sem.run_bind, hpart _ _ e1, hpart _ _ e2, Result.andThen_ok, hfield]
          cases c with
          | false =>
            simp only [cond_false, Option.some.injEq] at hc2
            subst hc2
            rfl
          | true =>
            simp only [cond_true] at hc2
            simp only [Bool.not_true, Bool.false_eq_true, if_false]
            exact kindsF_ok (off := off + 1) hks hc2 (fun j x p hxj hpj => hx (j + 1) x p (by simpa using hxj) (by rw [← hpj]; congr 1; omega)) (fun j y q hyj hqj => hy (j + 1) y q (by simpa using hyj) (by rw [← hqj]; congr 1; omega))
              (by simp at hp ⊢; omega) (by simp at hq ⊢; omega) d

theorem ok_eq (op : BinOp) (t u : TypeId) (x y : Operand) (hop : o.op = .binOp op t x y u) (neg : Bool) (hn : op = cond neg .neq .eql) {gx gy : Arg} (hx : cArg x = some gx) (hy : cArg y = some gy) {i : Ins} (hi : cEq P t neg (isNilC y) gx gy = some i)
    (hr : ReadsOK G w f a (gx.tmps ++ gy.tmps)) (hev : evPure f i = some v) : PureOK P G w o a v := by
  have h1 := arg_ok hx fun t ht => hr t (by simp [ht])
  have h2 := arg_ok hy fun t ht => hr t (by simp [ht])
  -- what is left to show: the values' own equality
  have fin : ∀ b, v = .p (.bool (cond neg (!b) b)) → (∀ p q, a.eval x = p → a.eval y = q → (eqGuard op t x y p q).run P w = .ok () w ∧ (Op.equal t p q).run P w = .ok b w ∧ (binOp op t p q = (do pure (.bool (cond neg (!(← Op.equal t p q)) (← Op.equal t p q)))) ∨
      binOp op t p q = (match neg with | true => (do pure (.bool (!(← Op.equal t p q)))) | false => (do pure (.bool (← Op.equal t p q)))))) → PureOK P G w o a v := by
    intro b hv hh
    obtain ⟨e1, e2, e3⟩ := hh _ _ rfl rfl
    subst hv
    refine pure_of (u := .bool (cond neg (!b) b)) (exec_binOp op t u x y hop) ?_ (Keep.refl w) (.bool _)
    rw [Sem.run_bind, e1, Result.andThen_ok]
    rcases e3 with e3 | e3
    · rw [e3]; simp [e2]
    · rw [e3]
      cases neg <;> simp [e2]
  unfold cEq at hi
  split at hi
  · rename_i fs hfs
    have hu : P.underlying t = some (.struct fs) := by
      unfold fieldsT at hfs
      split at hfs <;> try (cases hfs; done)
      rename_i hu
      simp only [Option.some.injEq] at hfs
      subst hfs
      exact hu
    cases hc : (!P.stoodInHeld t && !P.eqGuardType P.depth t) with
    | false => rw [hc] at hi; cases hi
    | true =>
      rw [hc] at hi
      simp only [cond_true, Option.map_eq_some_iff] at hi
      obtain ⟨ks, hks, rfl⟩ := hi
      simp only [Bool.and_eq_true, Bool.not_eq_true'] at hc
      simp only [evPure, Option.map_eq_some_iff] at hev
      obtain ⟨b, hb, rfl⟩ := hev
      refine fin b rfl fun p q hp hq => ?_
      unfold evEqs at hb
      split at hb <;> try (cases hb; done)
      rename_i xs ex
      split at hb <;> try (cases hb; done)
      rename_i ys ey
      rw [ex, hp] at h1
      rw [ey, hq] at h2
      cases h1 with | agg _ ps hpl hp1 hpv =>
      cases h2 with | agg _ qs hql hq1 hqv =>
      have hfs' : P.fieldsOf t = fs := by unfold Program.fieldsOf; rw [hu]
      refine ⟨run_eqGuard_agg w op t x y ps qs hc.2, ?_, .inr (by subst hn; cases neg <;> rfl)⟩
      unfold Op.equal Op.maxDepth
      rw [run_equalIn_struct w 9999 t ps qs (by rw [hfs']; exact hu) hc.1, hfs']
      exact kindsF_ok (off := 0) hks hb (fun j x p hxj hpj => hpv j x p hxj (by simpa using hpj)) (fun j y q hyj hqj => hqv j y q hyj (by simpa using hqj)) (by simpa using hpl) (by simpa using hql) 9998
  · simp only [Option.bind_eq_some_iff] at hi
    obtain ⟨k, hk, hi⟩ := hi
    have two : ∀ k', (k' = 1 ∨ k' = 2) → i = .bin (cond neg .neq .eql) gx gy → PureOK P G w o a v := by
      intro k' _ e
      subst e
      simp only [evPure, Option.map_eq_some_iff] at hev
      obtain ⟨c, hc, rfl⟩ := hev
      have hg : ∀ p q, (∃ k n, p = .int k n) ∨ (∃ s, p = .string s) → (eqGuard op t x y p q).run P w = .ok () w := by
        intro p q h
        rcases h with ⟨k, n, rfl⟩ | ⟨s, rfl⟩ <;> subst hn <;> cases neg <;> rfl
      unfold evBin at hc
      split at hc
      · rename_i k1 p k2 q e1 e2
        rw [e1] at h1; rw [e2] at h2
        rw [keq_iff] at hc
        by_cases hkk : k1 = k2
        · subst hkk
          simp only [decide_true, cond_true] at hc
          obtain ⟨z, hz, hp⟩ := binInt_ok (P := P) (w := w) (G := G) hc t
          refine pure_of (exec_binOp op t u x y hop) ?_ (Keep.refl w) (.p _ _ hp)
          rw [h1.int_inv, h2.int_inv, Sem.run_bind, hg _ _ (.inl ⟨_, _, rfl⟩), Result.andThen_ok, hn, hz]
        · simp only [hkk, decide_false, cond_false] at hc
          cases hc
      · rename_i p q e1 e2
        rw [e1] at h1; rw [e2] at h2
        obtain ⟨z, hz, hp⟩ := binStr_ok (P := P) (w := w) (G := G) hc t
        refine pure_of (exec_binOp op t u x y hop) ?_ (Keep.refl w) (.p _ _ hp)
        rw [h1.str_inv, h2.str_inv, Sem.run_bind, hg _ _ (.inr ⟨_, rfl⟩), Result.andThen_ok, hn, hz]
      · cases hc
    have one : k ≠ 5 → k ≠ 1 → k ≠ 2 → i = .eqv k neg gx gy → PureOK P G w o a v := by
      intro n5 n1 n2 e
      subst e
      simp only [evPure, Option.map_eq_some_iff] at hev
      obtain ⟨b, hb, rfl⟩ := hev
      refine fin b rfl fun p q hp hq => ?_
      rw [hp] at h1; rw [hq] at h2
      have hz := eqK_ok hk n5 hb h1 h2 9999
      refine ⟨?_, hz, .inr ?_⟩
      · unfold eqK at hb
        split at hb
        · split at hb <;> try (cases hb; done)
          rename_i ex ey; rw [ex] at h1; rw [h1.bool_inv]; subst hn; cases neg <;> rfl
        · exact absurd rfl n1
        · exact absurd rfl n2
        · split at hb <;> try (cases hb; done)
          · rename_i ex ey; rw [ex] at h1; rw [h1.nilFunc_inv]; subst hn; cases neg <;> rfl
          · rename_i ex ey; rw [ex] at h1; obtain ⟨_, _, e⟩ := h1.pfunc_inv; rw [e]; subst hn; cases neg <;> rfl
          · rename_i ex ey; rw [ex] at h1; obtain ⟨_, _, e⟩ := h1.func_inv; rw [e]; subst hn; cases neg <;> rfl
        · split at hb <;> try (cases hb; done)
          · rename_i ex ey; rw [ex] at h1; rw [h1.nilp_inv]; subst hn; cases neg <;> rfl
          · rename_i ex ey; rw [ex] at h1; obtain ⟨_, e, _⟩ := h1.ptr_inv; rw [e]; subst hn; cases neg <;> rfl
        · exact absurd rfl n5
        · cases hb
      · unfold eqK at hb
        split at hb
        · split at hb <;> try (cases hb; done)
          rename_i ex ey; rw [ex] at h1; rw [ey] at h2; rw [h1.bool_inv, h2.bool_inv]; subst hn; cases neg <;> rfl
        · exact absurd rfl n1
        · exact absurd rfl n2
        · split at hb <;> try (cases hb; done)
          · rename_i ex ey; rw [ex] at h1; rw [ey] at h2; rw [h1.nilFunc_inv, h2.nilFunc_inv]; subst hn; cases neg <;> rfl
          · rename_i ex ey; rw [ex] at h1; rw [ey] at h2; obtain ⟨_, _, e⟩ := h1.pfunc_inv; rw [e, h2.nilFunc_inv]; subst hn; cases neg <;> rfl
          · rename_i ex ey; rw [ex] at h1; rw [ey] at h2; obtain ⟨_, _, e⟩ := h1.func_inv; rw [e, h2.nilFunc_inv]; subst hn; cases neg <;> rfl
        · split at hb <;> try (cases hb; done)
          · rename_i ex ey; rw [ex] at h1; rw [ey] at h2; rw [h1.nilp_inv, h2.nilp_inv]; subst hn; cases neg <;> rfl
          · rename_i ex ey; rw [ex] at h1; rw [ey] at h2; obtain ⟨_, e, _⟩ := h1.ptr_inv; rw [e, h2.nilp_inv]; subst hn; cases neg <;> rfl
        · exact absurd rfl n5
        · cases hb
    split at hi
    · simp only [Option.some.injEq] at hi
      exact two 1 (.inl rfl) hi.symm
    · simp only [Option.some.injEq] at hi
      exact two 2 (.inr rfl) hi.symm
    · cases hnl : isNilC y with
      | false => rw [hnl] at hi; cases hi
      | true =>
        rw [hnl] at hi
        simp only [cond_true, Option.some.injEq] at hi
        subst hi
        have hy' : a.eval y = .slice none 0 0 := by
          unfold isNilC at hnl
          split at hnl
          · rfl
          · cases hnl
        simp only [evPure, Option.map_eq_some_iff] at hev
        obtain ⟨b, hb, rfl⟩ := hev
        obtain ⟨e5, hu5⟩ := (kindT_ok hk).2.2.2.2.2 rfl
        refine fin b rfl fun p q hp hq => ?_
        rw [hp] at h1
        rw [hy'] at hq
        subst hq
        unfold eqK at hb
        simp only at hb
        split at hb <;> try (cases hb; done)
        · rename_i n c cs ex ey
          simp only [Option.some.injEq] at hb
          subst hb
          rw [ex] at h1
          cases h1 with | p _ _ h1 =>
          cases h1 with
          | sl _ _ aa cap vs hn' hl hz h1' hc h =>
            cases vs with
            | nil => simp at hl
            | cons v0 vs =>
              obtain ⟨ad, rfl, _⟩ := hc 0 v0 rfl
              refine ⟨by subst hn; cases neg <;> rfl, ?_, .inr (by subst hn; cases neg <;> rfl)⟩
              exact run_equal_slice_nil w t e5 _ _ _ hu5
        · rename_i ex ey
          simp only [Option.some.injEq] at hb
          subst hb
          rw [ex] at h1
          cases h1 with | p _ _ h1 =>
          cases h1
          refine ⟨by subst hn; cases neg <;> rfl, ?_, .inr (by subst hn; cases neg <;> rfl)⟩
          exact run_equal_slice_nil w t e5 _ _ _ hu5
        · rename_i ex ey
          simp only [Option.some.injEq] at hb
          subst hb
          rw [ex] at h1
          cases h1 with | p _ _ h1 =>
          cases h1
          refine ⟨by subst hn; cases neg <;> rfl, ?_, .inr (by subst hn; cases neg <;> rfl)⟩
          exact run_equal_slice_nil w t e5 _ _ _ hu5
    · rename_i n1 n2 n5
      simp only [Option.some.injEq] at hi
      exact one (fun e => n5 e) (fun e => n1 e) (fun e => n2 e) hi.symm
end Go.AI

/- Operations that look at the frame alone: the third part. -/
namespace Go.AI
variable {P : Program} {G : Gh} {w : World} {f : Tr AVal} {a : Act} {o : Oper} {v : AVal}

theorem ok_not (t : TypeId) (x : Operand) (hop : o.op = .unOp .not t x) {g : Arg} (hg : cArg x = some g) (hr : ReadsOK G w f a g.tmps) (hev : evPure f (.not g) = some v) : PureOK P G w o a v := by
  have h1 := arg_ok hg hr
  simp only [evPure] at hev
  split at hev <;> try (cases hev; done)
  rename_i b e
  simp only [Option.some.injEq] at hev
  subst hev
  rw [e] at h1
  exact pure_of (exec_unOp .not t x hop) (by rw [h1.bool_inv]; rfl) (Keep.refl w) (.bool _)
theorem ok_cvt (s t : TypeId) (x : Operand) (hop : o.op = .convert s t x) {j k : IntKind} (hs : P.underlying s = some (.int j)) (ht : P.underlying t = some (.int k)) {g : Arg} (hg : cArg x = some g) (hr : ReadsOK G w f a g.tmps)
    (hev : evPure f (.cvt k g) = some v) : PureOK P G w o a v := by
  have h1 := arg_ok hg hr
  simp only [evPure] at hev
  split at hev <;> try (cases hev; done)
  rename_i k' n e
  simp only [Option.some.injEq] at hev
  subst hev
  rw [e] at h1
  exact pure_of (exec_convert s t x hop) (by rw [h1.int_inv]; simp [convert, run_underlying hs, run_underlying ht, Conv.intToInt]; rfl) (Keep.refl w) (by rw [wrapK_eq]; exact .int _ _)

theorem pureW_ok {x : AVal} {c : PVal} {v : Value} (hx : AVal.pureW x = some c) (h : VR G w x v) : PR G.S w c v := by
  unfold AVal.pureW at hx
  split at hx
  · simp only [Option.map_eq_some_iff] at hx
    obtain ⟨ds, hds, rfl⟩ := hx
    cases h with | agg _ vs hl h1 hv =>
    obtain ⟨h2, h3⟩ := pures_ok hds
    refine .agg ds vs (by omega) h1 fun i c v hc hv' => ?_
    have hi : i < ds.length := (List.getElem?_eq_some_iff.1 hc).1
    exact (pure1_ok (h3 i _ c (List.getElem?_eq_getElem (by omega)) hc) (hv i _ v (List.getElem?_eq_getElem (by omega)) hv')).1
  · exact (pure1_ok hx h).1
theorem puresW_ok : ∀ {xs : List AVal} {cs : List PVal}, puresW xs = some cs → cs.length = xs.length ∧ ∀ (j : Nat) x c, xs[j]? = some x → cs[j]? = some c → AVal.pureW x = some c
  | [], cs, h => by
    simp only [puresW, Option.some.injEq] at h
    subst h
    exact ⟨rfl, fun j x c h => by simp at h⟩
  | x :: xs, cs, h => by
    simp only [puresW, Option.bind_eq_some_iff, Option.map_eq_some_iff] at h
    obtain ⟨c, hc, ds, hds, rfl⟩ := h
    obtain ⟨h1, h2⟩ := puresW_ok hds
    refine ⟨by simp [h1], fun j y d hy hd => ?_⟩
    cases j with
    | zero =>
      simp only [List.getElem?_cons_zero, Option.some.injEq] at hy hd
      subst hy; subst hd; exact hc
    | succ j => exact h2 j y d (by simpa using hy) (by simpa using hd)
theorem puresW_rel {xs : List AVal} {cs : List PVal} {vs : List Value} (h : puresW xs = some cs) (hx : VRs G w xs vs) : cs.length = vs.length ∧ ∀ (i : Nat) c v, cs[i]? = some c → vs[i]? = some v → PR G.S w c v := by
  obtain ⟨h1, h2⟩ := puresW_ok h
  refine ⟨h1.trans hx.1, fun i c v hc hv => ?_⟩
  have hi : i < cs.length := (List.getElem?_eq_some_iff.1 hc).1
  exact pureW_ok (h2 i _ c (List.getElem?_eq_getElem (by omega)) hc) (hx.2 i _ v (List.getElem?_eq_getElem (by omega)) hv)
theorem ok_mkf (fn : Nat) (xs ys : Array Operand) (hop : o.op = .makeFunc (.func fn) xs ys) {gx gy : List Arg} (hx : cArgs xs.toList = some gx) (hy : cArgs ys.toList = some gy)
    (hr : ReadsOK G w f a (gx.flatMap Arg.tmps ++ gy.flatMap Arg.tmps)) (hev : evPure f (.mkf fn gx gy) = some v) : PureOK P G w o a v := by
  have h1 := args_ok hx fun t ht => hr t (by simp only [List.mem_append]; exact .inl ht)
  have h2 := args_ok hy fun t ht => hr t (by simp only [List.mem_append]; exact .inr ht)
  refine pure_of (u := .func (.func fn) (xs.map a.eval) (ys.map a.eval)) (exec_makeFunc (.func fn) xs ys hop) rfl (Keep.refl w) ?_
  have e1 : (xs.map a.eval).toList = xs.toList.map a.eval := by simp
  have e2 : (ys.map a.eval).toList = ys.toList.map a.eval := by simp
  simp only [evPure] at hev
  split at hev
  · rename_i c d hc hd
    simp only [Option.some.injEq] at hev
    subst hev
    obtain ⟨h3, h4⟩ := puresW_rel hc h1
    obtain ⟨h5, h6⟩ := puresW_rel hd h2
    exact .p _ _ (.func fn c d _ _ (by simpa using h3) (by simpa using h5) (fun i c v hc hv => h4 i c v hc (by rw [← e1]; simpa using hv)) (fun i c v hc hv => h6 i c v hc (by rw [← e2]; simpa using hv)))
  · simp only [Option.some.injEq] at hev
    subst hev
    exact .func fn _ _ _ _ (by simpa using h1.1) (by simpa using h2.1) (fun i c v hc hv => h1.2 i c v hc (by rw [← e1]; simpa using hv)) (fun i c v hc hv => h2.2 i c v hc (by rw [← e2]; simpa using hv))

theorem fieldsT_ok {t : TypeId} {fs : Array Field} (h : fieldsT P t = some fs) : P.underlying t = some (.struct fs) := by
  unfold fieldsT at h
  split at h <;> try (cases h; done)
  rename_i hu
  simp only [Option.some.injEq] at h
  subst h
  exact hu
theorem sliceT_ok {t e : TypeId} (h : sliceT P t = some e) : P.underlying t = some (.slice e) := by
  unfold sliceT at h
  split at h <;> try (cases h; done)
  rename_i hu
  simp only [Option.some.injEq] at h
  subst h
  exact hu
theorem elem_of {t e : TypeId} (h : P.underlying t = some (.slice e)) : P.elem t = e := by unfold Program.elem; rw [h]
theorem sizeT_ok {t : TypeId} {n : Nat} (h : sizeT P t = some n) : 0 < n ∧ ∃ i, P.info? t = some i ∧ i.size = n := by
  unfold sizeT at h
  simp only [Option.bind_eq_some_iff] at h
  obtain ⟨i, hi, h⟩ := h
  cases hb : Nat.blt 0 i.size with
  | false => rw [hb] at h; cases h
  | true =>
    rw [hb] at h
    simp only [cond_true, Option.some.injEq] at h
    exact ⟨by have := blt_iff.1 hb; omega, i, hi, h⟩
theorem run_sizeOf' {t : TypeId} {i : TypeInfo} (h : P.info? t = some i) (w : World) : (sizeOf t).run P w = .ok i.size w := by simp [sizeOf, typeInfo, h]
theorem natOf_ok {x : AVal} {n : Nat} {v : Value} (hx : natOf x = some n) (h : VR G w x v) : ∃ k, v = .int k n := by
  unfold natOf at hx
  split at hx <;> try (cases hx; done)
  simp only [Option.some.injEq] at hx
  subst hx
  exact ⟨_, h.int_inv⟩

theorem ok_fa (t : TypeId) (x : Operand) (j : Nat) (hop : o.op = .fieldAddr t x j) {fs : Array Field} (hfs : fieldsT P t = some fs) {fd : Field} (hfd : fs[j]? = some fd) {n : Nat} (hn : sizeT P fd.type = some n)
    {g : Arg} (hg : cArg x = some g) (hr : ReadsOK G w f a g.tmps) (hev : evPure f (.fa fd.offset g) = some v) : PureOK P G w o a v := by
  have h1 := arg_ok hg hr
  obtain ⟨hn0, i, hi, hin⟩ := sizeT_ok hn
  have run : ∀ ad, a.eval x = .pointer (some ad) → (Instr.fieldAt t (a.eval x) j).run P w = .ok (.pointer (some (ad.add fd.offset))) w := by
    intro ad e
    rw [e]
    simp [Instr.fieldAt, run_underlying (fieldsT_ok hfs), hfd, Instr.sureAddr, fieldPlace, run_sizeOf' hi, show i.size ≠ 0 by omega]
  simp only [evPure] at hev
  split at hev <;> try (cases hev; done)
  · rename_i k gg off e
    simp only [Option.some.injEq] at hev
    subst hev
    rw [e] at h1
    generalize hx : a.eval x = y at h1
    cases h1 with | lptr _ _ _ b hb =>
    exact pure_of (exec_fieldAddr t x j hop) (run _ hx) (Keep.refl w) (by rw [add_mk]; exact .lptr _ _ _ _ hb)
  · rename_i l off e
    simp only [Option.some.injEq] at hev
    subst hev
    rw [e] at h1
    generalize hx : a.eval x = y at h1
    cases h1 with | ptr _ _ b hb =>
    exact pure_of (exec_fieldAddr t x j hop) (run _ hx) (Keep.refl w) (by rw [add_mk]; exact .ptr _ _ _ hb)
  · rename_i cs off e
    simp only [Option.some.injEq] at hev
    subst hev
    rw [e] at h1
    generalize hx : a.eval x = y at h1
    cases h1 with | elem _ _ ad hb =>
    refine pure_of (exec_fieldAddr t x j hop) (run _ hx) (Keep.refl w) (.elem _ _ _ fun k c hc => ?_)
    obtain ⟨u, h2, h3, h4⟩ := hb (fd.offset + k) c (by rw [← hc]; congr 1; omega)
    refine ⟨u, by rw [add_add']; exact h2, ?_, h4⟩
    rw [add_block, add_off]
    rw [show ad.off + fd.offset + k = ad.off + (fd.offset + k) by omega]
    exact h3

theorem PR.row {S : Nat → Nat → Prop} {n : Nat} {cs : List PVal} {a : Option Addr} {cap : Nat} (h : PR S w (.sl n cs) (.slice a n cap)) :
    n ≤ cap ∧ (n = 0 ↔ cs = []) ∧ ∀ (i : Nat) c, cs[i]? = some c → ∃ ad v, a = some ad ∧ w.cell? (ad.add i) = some v ∧ S ad.block (ad.off + i) ∧ PR S w c v ∧ v.oneCell' = true := by
  cases h with
  | sl _ _ _ _ vs hn hl hz h1 hc h =>
    refine ⟨hn, hz, fun i c hi => ?_⟩
    have hlt : i < vs.length := by rw [← hl]; exact (List.getElem?_eq_some_iff.1 hi).1
    have hv : vs[i]? = some vs[i] := List.getElem?_eq_getElem hlt
    obtain ⟨ad, e, h2, h3⟩ := hc i _ hv
    exact ⟨ad, _, e, h2, h3, h i c _ hi hv, h1 _ (List.getElem_mem hlt)⟩
theorem ok_ia (t : TypeId) (x y : Operand) (hop : o.op = .indexAddr t x y) {e : TypeId} (ht : sliceT P t = some e) {sz : Nat} (hs : sizeT P e = some sz) {gx gy : Arg} (hx : cArg x = some gx) (hy : cArg y = some gy)
    (hr : ReadsOK G w f a (gx.tmps ++ gy.tmps)) (hev : evPure f (.ia sz gx gy) = some v) : PureOK P G w o a v := by
  have h1 := arg_ok hx fun t ht => hr t (by simp [ht])
  have h2 := arg_ok hy fun t ht => hr t (by simp [ht])
  obtain ⟨hs0, i, hi, his⟩ := sizeT_ok hs
  simp only [evPure, Option.bind_eq_some_iff] at hev
  obtain ⟨m, hm, ⟨n, cs⟩, hrow, hev⟩ := hev
  obtain ⟨k, ek⟩ := natOf_ok hm h2
  obtain ⟨ad, cap, ev, hp⟩ := row_inv hrow h1
  obtain ⟨hcap, hz, hc⟩ := hp.row
  simp only at hev
  cases hb : Nat.blt m n with
  | false => rw [hb] at hev; cases hev
  | true =>
    rw [hb] at hev
    simp only [cond_true, Option.some.injEq] at hev
    have hmn := blt_iff.1 hb
    have hu := sliceT_ok ht
    have hel := elem_of hu
    -- the address: if the row has cells at all there is one; if it has none, none is asked
    cases ad with
    | none =>
      have hnil : cs = [] := by
        cases cs with
        | nil => rfl
        | cons c cs => obtain ⟨_, _, e, _⟩ := hc 0 c rfl; cases e
      have := hz.2 hnil
      omega
    | some ad =>
      refine pure_of (u := .pointer (some (ad.add (m * sz)))) (exec_indexAddr t x y hop) ?_ (Keep.refl w) ?_
      · rw [ev, ek, run_indexAt_slice w t ad n cap k m (by rw [hel]; exact hu), if_pos ⟨by omega, by omega⟩, hel, run_sizeOf' hi]
        simp [his]
      · subst hev
        refine .elem _ _ _ fun j c hj => ?_
        obtain ⟨ad', u, e, h3, h4, h5, h6⟩ := hc (m * sz + j) c hj
        injection e with e
        subst e
        exact ⟨u, by rw [add_add']; exact h3, by rw [add_block, add_off, Nat.add_assoc]; exact h4, h5, h6⟩

theorem ok_idx (t : TypeId) (x y : Operand) (hop : o.op = .index t x y) (ht : P.underlying t = some .string) {gx gy : Arg} (hx : cArg x = some gx) (hy : cArg y = some gy)
    (hr : ReadsOK G w f a (gx.tmps ++ gy.tmps)) (hev : evPure f (.idx gx gy) = some v) : PureOK P G w o a v := by
  have h1 := arg_ok hx fun t ht => hr t (by simp [ht])
  have h2 := arg_ok hy fun t ht => hr t (by simp [ht])
  simp only [evPure, Option.bind_eq_some_iff] at hev
  obtain ⟨m, hm, hev⟩ := hev
  obtain ⟨k, ek⟩ := natOf_ok hm h2
  split at hev <;> try (cases hev; done)
  rename_i s e
  rw [e] at h1
  simp only [Option.map_eq_some_iff] at hev
  obtain ⟨b, hb, rfl⟩ := hev
  rw [lget_eq] at hb
  have hb' : s[m]? = some b := by
    have : s.data[m]? = some b := by simpa using hb
    obtain ⟨h3, h4⟩ := Array.getElem?_eq_some_iff.1 this
    have hlt : m < s.size := h3
    rw [getElem?_pos s m hlt]
    congr 1
  refine pure_of (u := .int .u8 b.toNat) (exec_index t x y hop) ?_ (Keep.refl w) (.int _ _)
  rw [h1.str_inv, ek]
  simp [Instr.index, asIntOf, run_underlying ht, hb']
theorem ok_ext (x : Operand) (j : Nat) (hop : o.op = .extract x j) {g : Arg} (hg : cArg x = some g) (hr : ReadsOK G w f a g.tmps) (hev : evPure f (.ext g j) = some v) : PureOK P G w o a v := by
  have h1 := arg_ok hg hr
  simp only [evPure] at hev
  split at hev <;> try (cases hev; done)
  rename_i cs e
  rw [e] at h1
  rw [lget_eq] at hev
  generalize hx : a.eval x = y at h1
  cases h1 with | tuple _ vs hl h =>
  have hj : j < vs.size := by rw [← hl]; exact (List.getElem?_eq_some_iff.1 hev).1
  have hv : vs[j]? = some vs[j] := Array.getElem?_eq_getElem hj
  exact pure_of (u := vs[j]) (exec_extract x j hop) (by rw [hx]; simp [Instr.extract, hv]) (Keep.refl w) (h j v _ hev hv)

theorem exec_builtin (c : Call) (hop : o.op = .call c) (b : Builtin) (hc : c.callee = .builtin b) : execOp a.eval o = builtin b c.argTypes o.type (c.args.map fun | .const _ => true | _ => false) (c.args.map a.eval) := by
  rw [exec_call c hop]
  unfold resolve
  rw [hc]
  rfl
theorem list1 {α : Type} {xs : Array α} {x : α} (h : xs.toList = [x]) : xs = #[x] := by cases xs; simp at h; subst h; rfl
theorem list2 {α : Type} {xs : Array α} {x y : α} (h : xs.toList = [x, y]) : xs = #[x, y] := by cases xs; simp at h; subst h; rfl
theorem ok_lenS (c : Call) (hop : o.op = .call c) (hc : c.callee = .builtin .len) {x : Operand} (hxs : c.args.toList = [x]) {t : TypeId} (hts : c.argTypes.toList = [t]) (ht : P.underlying t = some .string) {g : Arg} (hg : cArg x = some g)
    (hr : ReadsOK G w f a g.tmps) (hev : evPure f (.len true g) = some v) : PureOK P G w o a v := by
  have h1 := arg_ok hg hr
  have he : execOp a.eval o = (do pure (.value (← Builtin.len_ #[t] o.type #[a.eval x]))) := by
    rw [exec_builtin c hop .len hc, list1 hxs, list1 hts]; simp [builtin]
  simp only [evPure, cond_true] at hev
  split at hev <;> try (cases hev; done)
  rename_i s e
  rw [e] at h1
  simp only [Option.some.injEq] at hev
  subst hev
  exact pure_of he (u := goInt s.size) (by rw [h1.str_inv]; simp [Builtin.len_, run_underlying ht]) (Keep.refl w) (by rw [strLen_eq]; exact .int _ _)
theorem ok_lenR (c : Call) (hop : o.op = .call c) (hc : c.callee = .builtin .len) {x : Operand} (hxs : c.args.toList = [x]) {t e : TypeId} (hts : c.argTypes.toList = [t]) (ht : P.underlying t = some (.slice e)) {g : Arg} (hg : cArg x = some g)
    (hr : ReadsOK G w f a g.tmps) (hev : evPure f (.len false g) = some v) : PureOK P G w o a v := by
  have h1 := arg_ok hg hr
  have he : execOp a.eval o = (do pure (.value (← Builtin.len_ #[t] o.type #[a.eval x]))) := by
    rw [exec_builtin c hop .len hc, list1 hxs, list1 hts]; simp [builtin]
  simp only [evPure, cond_false, Option.map_eq_some_iff] at hev
  obtain ⟨⟨n, cs⟩, hrow, rfl⟩ := hev
  obtain ⟨ad, cap, e, hp⟩ := row_inv hrow h1
  exact pure_of he (u := goInt n) (by rw [e]; simp [Builtin.len_, run_underlying ht]) (Keep.refl w) (.int _ _)
theorem ok_min (c : Call) (hop : o.op = .call c) (mx : Bool) (hc : c.callee = .builtin (cond mx .max .min)) {x y : Operand} (hxs : c.args.toList = [x, y]) {gx gy : Arg} (hx : cArg x = some gx) (hy : cArg y = some gy)
    (hr : ReadsOK G w f a (gx.tmps ++ gy.tmps)) (hev : evPure f (.minmax mx gx gy) = some v) : PureOK P G w o a v := by
  have h1 := arg_ok hx fun t ht => hr t (by simp [ht])
  have h2 := arg_ok hy fun t ht => hr t (by simp [ht])
  simp only [evPure] at hev
  split at hev <;> try (cases hev; done)
  rename_i k m k' n e1 e2
  rw [e1] at h1; rw [e2] at h2
  simp only [Option.some.injEq] at hev
  subst hev
  cases mx with
  | false =>
    have he : execOp a.eval o = (do pure (.value (← Builtin.min_ c.argTypes o.type #[a.eval x, a.eval y]))) := by
      rw [exec_builtin c hop .min hc, list2 hxs]; simp [builtin]
    refine pure_of he (u := .int k (if n < m then n else m)) (by rw [h1.int_inv, h2.int_inv]; simp [Builtin.min_, Builtin.min2]) (Keep.refl w) ?_
    simp only [cond_false]
    rw [ilt_iff]
    by_cases h : n < m <;> simp [h] <;> exact .int _ _
  | true =>
    have he : execOp a.eval o = (do pure (.value (← Builtin.max_ c.argTypes o.type #[a.eval x, a.eval y]))) := by
      rw [exec_builtin c hop .max hc, list2 hxs]; simp [builtin]
    refine pure_of he (u := .int k (if m < n then n else m)) (by rw [h1.int_inv, h2.int_inv]; simp [Builtin.max_, Builtin.max2]) (Keep.refl w) ?_
    simp only [cond_true]
    rw [ilt_iff]
    by_cases h : m < n <;> simp [h] <;> exact .int _ _
end Go.AI

/- Operations that look at the frame alone: slices, aggregates. -/
namespace Go.AI
variable {P : Program} {G : Gh} {w : World} {f : Tr AVal} {a : Act} {o : Oper} {v : AVal}

theorem PR.sub {S : Nat → Nat → Prop} {n : Nat} {cs : List PVal} {ad : Option Addr} {cap : Nat} (h : PR S w (.sl n cs) (.slice ad n cap)) {l b sz : Nat} (hlb : l ≤ b) (hbn : b ≤ n) (hsz : 0 < sz) (hb : b * sz ≤ cs.length) :
    PR S w (.sl (b - l) ((cs.drop (l * sz)).take ((b - l) * sz))) (.slice (if cap = l then ad else ad.map (·.add (l * sz))) (b - l) (cap - l)) := by
  cases h with
  | sl _ _ _ _ vs hn hl hz h1 hc h =>
    have hls : l * sz ≤ b * sz := Nat.mul_le_mul_right _ hlb
    have hsub : (b - l) * sz = b * sz - l * sz := Nat.sub_mul _ _ _
    refine .sl _ _ _ _ ((vs.drop (l * sz)).take ((b - l) * sz)) (by omega) (by simp [hl]) ?_ (fun u hu => h1 u (List.mem_of_mem_drop (List.mem_of_mem_take hu))) ?_ ?_
    · constructor
      · intro e
        rw [e, Nat.zero_mul]
        rfl
      · intro e
        have := congrArg List.length e
        simp only [List.length_take, List.length_drop, List.length_nil] at this
        rcases Nat.eq_zero_or_pos (b - l) with e0 | e0
        · exact e0
        · have : 0 < (b - l) * sz := Nat.mul_pos e0 hsz
          omega
    · intro i u hu
      rw [List.getElem?_take] at hu
      split at hu <;> try (cases hu; done)
      rename_i hi
      rw [List.getElem?_drop] at hu
      obtain ⟨x, rfl, h2, h3⟩ := hc _ u hu
      have hne : cap ≠ l := by
        intro e
        have : b - l = 0 := by omega
        rw [this, Nat.zero_mul] at hi
        omega
      rw [if_neg hne]
      exact ⟨x.add (l * sz), rfl, by rw [add_add']; exact h2, by rw [add_block, add_off, Nat.add_assoc]; exact h3⟩
    · intro i c u hi hu
      rw [List.getElem?_take] at hi hu
      split at hu <;> try (cases hu; done)
      rename_i hlt
      rw [if_pos hlt] at hi
      rw [List.getElem?_drop] at hi hu
      exact h _ c u hi hu
theorem natOr_ok {d m : Nat} {x : Option Operand} {g : Option Arg} (hg : cArgO x = some g) (h : natOr d f g = some m) (hr : ReadsOK G w f a (g.toList.flatMap Arg.tmps)) : (x = none ∧ m = d) ∨ ∃ y k, x = some y ∧ a.eval y = .int k m := by
  cases x with
  | none =>
    simp only [cArgO, Option.some.injEq] at hg
    subst hg
    simp only [natOr, Option.some.injEq] at h
    exact .inl ⟨rfl, h.symm⟩
  | some y =>
    simp only [cArgO, Option.map_eq_some_iff] at hg
    obtain ⟨z, hz, rfl⟩ := hg
    obtain ⟨k, e⟩ := natOf_ok h (arg_ok hz fun t ht => hr t (by simpa using ht))
    exact .inr ⟨y, k, rfl, e⟩
theorem ok_slice (t : TypeId) (x : Operand) (lo hi : Option Operand) (hop : o.op = .slice t x lo hi none) {e : TypeId} (ht : P.underlying t = some (.slice e)) {sz : Nat} (hs : sizeT P e = some sz) {g : Arg} {gl gh : Option Arg}
    (hg : cArg x = some g) (hl : cArgO lo = some gl) (hh : cArgO hi = some gh) (hr : ReadsOK G w f a (g.tmps ++ (gl.toList.flatMap Arg.tmps ++ gh.toList.flatMap Arg.tmps))) (hev : evPure f (.slice sz g gl gh) = some v) : PureOK P G w o a v := by
  have h1 := arg_ok hg fun t ht => hr t (by simp only [List.mem_append]; exact .inl ht)
  obtain ⟨hs0, i, hi', his⟩ := sizeT_ok hs
  simp only [evPure, Option.bind_eq_some_iff] at hev
  obtain ⟨⟨n, cs⟩, hrow, l, hl', b, hb', hev⟩ := hev
  simp only at hl' hb' hev
  obtain ⟨ad, cap, ev, hp⟩ := row_inv hrow h1
  obtain ⟨hcap, _, _⟩ := hp.row
  cases hc : (Nat.ble l b && (Nat.ble b n && Nat.ble (b * sz) cs.length)) with
  | false => rw [hc] at hev; cases hev
  | true =>
    rw [hc] at hev
    simp only [cond_true, Option.some.injEq] at hev
    simp only [Bool.and_eq_true] at hc
    have hlb := ble_iff.1 hc.1
    have hbn := ble_iff.1 hc.2.1
    have hbs := ble_iff.1 hc.2.2
    have hel := elem_of ht
    have hu : P.underlying t = some (.slice (P.elem t)) := by rw [hel]; exact ht
    refine pure_of (u := sliced ad l b cap sz) (exec_slice t x lo hi none hop) ?_ (Keep.refl w) ?_
    · have e2 : ∀ k : Nat, ((k : Int)).toNat = k := fun k => rfl
      simp only [Option.map_none]
      rw [run_sliceAt_slice w t _ _ _ _ hu, ev]
      rcases natOr_ok hl hl' (fun t ht => hr t (by simp only [List.mem_append]; exact .inr (.inl ht))) with ⟨rfl, rfl⟩ | ⟨y, k, rfl, ey⟩ <;>
        rcases natOr_ok hh hb' (fun t ht => hr t (by simp only [List.mem_append]; exact .inr (.inr ht))) with ⟨rfl, rfl⟩ | ⟨z, k', rfl, ez⟩
      · simp only [Option.map_none]
        rw [run_slice_all w t ad _ cap hu, hel, run_sizeOf' hi', Result.andThen_ok, his]
      · simp only [Option.map_none, Option.map_some, ez]
        rw [run_slice_h w t ad n cap hu k' b (by omega) (by omega), hel, run_sizeOf' hi', Result.andThen_ok, his, e2]
      · simp only [Option.map_none, Option.map_some, ey]
        rw [run_slice_l w t ad _ cap hu k l (by omega) (by omega), hel, run_sizeOf' hi', Result.andThen_ok, his, e2]
      · simp only [Option.map_some, ey, ez]
        rw [run_slice_lh w t ad n cap hu k k' l b (by omega) (by omega) (by omega), hel, run_sizeOf' hi', Result.andThen_ok, his, e2, e2]
    · subst hev
      rw [ltake_eq, ldrop_eq]
      exact .p _ _ (hp.sub hlb hbn hs0 hbs)
theorem extract_list (s : ByteArray) (l b : Nat) (_hlb : l ≤ b) (hb : b ≤ s.size) : s.extract l b = ⟨((s.data.toList.drop l).take (b - l)).toArray⟩ := by
  apply ByteArray.ext
  rw [ByteArray.data_extract]
  apply Array.toList_inj.1
  rw [Array.toList_extract]
theorem ok_sstr (t : TypeId) (x : Operand) (lo hi : Option Operand) (hop : o.op = .slice t x lo hi none) (ht : P.underlying t = some .string) {g : Arg} {gl gh : Option Arg}
    (hg : cArg x = some g) (hl : cArgO lo = some gl) (hh : cArgO hi = some gh) (hr : ReadsOK G w f a (g.tmps ++ (gl.toList.flatMap Arg.tmps ++ gh.toList.flatMap Arg.tmps))) (hev : evPure f (.sstr g gl gh) = some v) : PureOK P G w o a v := by
  have h1 := arg_ok hg fun t ht => hr t (by simp only [List.mem_append]; exact .inl ht)
  simp only [evPure] at hev
  split at hev <;> try (cases hev; done)
  rename_i s es
  rw [es] at h1
  simp only [Option.bind_eq_some_iff] at hev
  obtain ⟨l, hl', b, hb', hev⟩ := hev
  rw [strLen_eq] at hb' hev
  cases hc : (Nat.ble l b && Nat.ble b s.size) with
  | false => rw [hc] at hev; cases hev
  | true =>
    rw [hc] at hev
    simp only [cond_true, Option.some.injEq] at hev
    simp only [Bool.and_eq_true] at hc
    have hlb := ble_iff.1 hc.1
    have hbn := ble_iff.1 hc.2
    have hbd : (Instr.sliceBounds false s.size s.size (lo.map a.eval) (hi.map a.eval) none).run P w = .ok (l, b, s.size) w := by
      rcases natOr_ok hl hl' (fun t ht => hr t (by simp only [List.mem_append]; exact .inr (.inl ht))) with ⟨rfl, rfl⟩ | ⟨y, k, rfl, ey⟩ <;>
        rcases natOr_ok hh hb' (fun t ht => hr t (by simp only [List.mem_append]; exact .inr (.inr ht))) with ⟨rfl, rfl⟩ | ⟨z, k', rfl, ez⟩
      · simp [Instr.sliceBounds]
      · simp [Instr.sliceBounds, ez, Instr.sliceBound, asIntOf, hbn]
      · simp [Instr.sliceBounds, ey, Instr.sliceBound, asIntOf, hlb]
      · simp [Instr.sliceBounds, ey, ez, Instr.sliceBound, asIntOf, hlb, hbn]
    refine pure_of (u := .string (s.extract l b)) (exec_slice t x lo hi none hop) ?_ (Keep.refl w) ?_
    · simp only [Option.map_none]
      rw [run_sliceAt_string w t _ _ _ _ ht, h1.str_inv]
      simp [Instr.slice, run_underlying ht, hbd]
    · subst hev
      rw [ltake_eq, ldrop_eq, ← extract_list s l b hlb hbn]
      exact .str _
end Go.AI

/- Operations that look at the frame alone: aggregates and slice literals. -/
namespace Go.AI
variable {P : Program} {G : Gh} {w : World} {f : Tr AVal} {a : Act} {o : Oper} {v : AVal}

theorem fold_set (off : Nat) : ∀ (us : List Value) (k : Nat) (cells : Array Value), off + k + us.length ≤ cells.size →
    ((us.zipIdx k).foldl (fun cs (p : Value × Nat) => cs.setIfInBounds (off + p.2) p.1) cells).size = cells.size ∧
    ∀ i : Nat, ((us.zipIdx k).foldl (fun cs (p : Value × Nat) => cs.setIfInBounds (off + p.2) p.1) cells)[i]? = if i < off + k then cells[i]? else if i < off + k + us.length then us[i - (off + k)]? else cells[i]?
  | [], k, cells, _ => by
    refine ⟨rfl, fun i => ?_⟩
    simp only [List.zipIdx_nil, List.foldl_nil, List.length_nil, Nat.add_zero]
    split <;> simp
  | u :: us, k, cells, h => by
    simp only [List.length_cons] at h
    obtain ⟨h1, h2⟩ := fold_set off us (k + 1) (cells.setIfInBounds (off + k) u) (by simp; omega)
    simp only [List.zipIdx_cons, List.foldl_cons]
    refine ⟨by rw [h1]; simp, fun i => ?_⟩
    rw [h2]
    simp only [Array.getElem?_setIfInBounds, List.length_cons]
    by_cases c1 : i < off + k
    · rw [if_pos (by omega), if_neg (by omega), if_pos c1]
    · rw [if_neg c1]
      by_cases c2 : i = off + k
      · subst c2
        rw [if_pos (by omega), if_pos rfl, if_pos (by omega), if_pos (by omega), Nat.sub_self]
        rfl
      · rw [if_neg (by omega)]
        by_cases c3 : i < off + (k + 1) + us.length
        · rw [if_pos (by omega), if_pos (by omega)]
          rw [show i - (off + k) = (i - (off + (k + 1))) + 1 by omega]
          rfl
        · rw [if_neg (by omega), if_neg (by omega), if_neg (by omega)]
theorem fold_arr (off : Nat) (us cells : Array Value) (h : off + us.size ≤ cells.size) :
    (us.zipIdx.foldl (fun cs (c, j) => cs.setIfInBounds (off + j) c) cells).size = cells.size ∧
    ∀ i : Nat, (us.zipIdx.foldl (fun cs (c, j) => cs.setIfInBounds (off + j) c) cells)[i]? = if i < off then cells[i]? else if i < off + us.size then us[i - off]? else cells[i]? := by
  have := fold_set off us.toList 0 cells (by simpa using h)
  simp only [Nat.add_zero, Array.length_toList, Array.getElem?_toList] at this
  rw [← Array.foldl_toList, Array.toList_zipIdx]
  exact this

/-- Of cells, their relation to data, place by place. -/
def Rows {α : Type} (R : α → Value → Prop) (zs : List α) (cells : Array Value) : Prop := zs.length = cells.size ∧ (∀ v ∈ cells, v.oneCell' = true) ∧ ∀ (i : Nat) c v, zs[i]? = some c → cells[i]? = some v → R c v
theorem Rows.lay {α : Type} {R : α → Value → Prop} {zs ys zs' : List α} {cells us : Array Value} {off : Nat} (hz : Rows R zs cells) (hy : Rows R ys us) (ho : over zs off ys = some zs') :
    off + us.size ≤ cells.size ∧ Rows R zs' (us.zipIdx.foldl (fun cs (c, j) => cs.setIfInBounds (off + j) c) cells) := by
  obtain ⟨h1, h2, h3⟩ := hz
  obtain ⟨k1, k2, k3⟩ := hy
  obtain ⟨hle, _⟩ := over_some ho
  have hle' : off + us.size ≤ cells.size := by omega
  obtain ⟨f1, f2⟩ := fold_arr off us cells hle'
  have hget := over_get ho
  refine ⟨hle', by rw [over_length ho, f1, h1], fun v hv => ?_, fun i c v hc hv => ?_⟩
  · obtain ⟨i, hi, e⟩ := Array.getElem_of_mem hv
    have : (us.zipIdx.foldl (fun cs (c, j) => cs.setIfInBounds (off + j) c) cells)[i]? = some v := by rw [Array.getElem?_eq_getElem hi, e]
    rw [f2] at this
    split at this
    · exact h2 v (Array.mem_of_getElem? this)
    · split at this
      · exact k2 v (Array.mem_of_getElem? this)
      · exact h2 v (Array.mem_of_getElem? this)
  · rw [hget] at hc
    rw [f2] at hv
    rw [k1] at hc
    split at hc
    · rename_i c1; rw [if_pos c1] at hv; exact h3 i c v hc hv
    · rename_i c1
      rw [if_neg c1] at hv
      split at hc
      · rename_i c2; rw [if_pos c2] at hv; exact k3 _ c v hc hv
      · rename_i c2; rw [if_neg c2] at hv; exact h3 i c v hc hv

theorem cells_rows {n : Option Nat} {x : AVal} {cs : List AVal} {v : Value} (hx : AVal.cells n x = some cs) (h : VR G w x v) : cs.length = cnt n ∧ Rows (VR G w) cs v.cells := by
  obtain ⟨h1, h2, h3, _⟩ := cells_ok hx h
  exact ⟨h1, by have := h2.1; simpa using this, h3, fun i c u hc hu => h2.2 i c u hc (by simpa using hu)⟩
theorem pures_rows {cs : List AVal} {ps : List PVal} {us : Array Value} (hp : pures cs = some ps) (h : Rows (VR G w) cs us) : Rows (PR G.S w) ps us := by
  obtain ⟨h1, h2⟩ := pures_ok hp
  refine ⟨h1.trans h.1, h.2.1, fun i c v hc hv => ?_⟩
  have hi : i < cs.length := by rw [← h1]; exact (List.getElem?_eq_some_iff.1 hc).1
  exact (pure1_ok (h2 i _ c (List.getElem?_eq_getElem hi) hc) (h.2.2 i _ v (List.getElem?_eq_getElem hi) hv)).1

theorem fillA_ok {place : Nat → Option (Nat × Option Nat)} {place' : Nat → Option (Nat × Nat)} (hpl : ∀ i off n, place i = some (off, n) → place' i = some (off, cnt n)) :
    ∀ {ps : List (Nat × Operand)} {gs : List (Nat × Option Nat × Arg)} {zs zs' : List AVal} {cells : Array Value}, cParts place ps = some gs → fillA zs f gs = some zs' → ReadsOK G w f a (gs.flatMap fun p => p.2.2.tmps) →
      Rows (VR G w) zs cells → ∃ cells', Instr.fill place' cells (ps.map fun (i, x) => (i, a.eval x)) = some cells' ∧ Rows (VR G w) zs' cells'
  | [], gs, zs, zs', cells, hg, hf, _, hz => by
    simp only [cParts, Option.some.injEq] at hg
    subst hg
    simp only [fillA, Option.some.injEq] at hf
    subst hf
    exact ⟨cells, rfl, hz⟩
  | (i, x) :: ps, gs, zs, zs', cells, hg, hf, hr, hz => by
    simp only [cParts, Option.bind_eq_some_iff, Option.map_eq_some_iff] at hg
    obtain ⟨⟨off, n⟩, hp, y, hy, gs', hgs, rfl⟩ := hg
    simp only [fillA, Option.bind_eq_some_iff] at hf
    obtain ⟨cs, hcs, z1, hz1, hf⟩ := hf
    have hx := arg_ok hy fun t ht => hr t (by simp only [List.flatMap_cons, List.mem_append]; exact .inl ht)
    obtain ⟨h1, h2⟩ := cells_rows hcs hx
    obtain ⟨h3, h4⟩ := hz.lay h2 hz1
    obtain ⟨cells', h5, h6⟩ := fillA_ok hpl hgs hf (fun t ht => hr t (by simp only [List.flatMap_cons, List.mem_append]; exact .inr ht)) h4
    refine ⟨cells', ?_, h6⟩
    simp only [List.map_cons, Instr.fill, hpl _ _ _ hp]
    have hs : (a.eval x).cells.size = cnt n := by rw [← h2.1]; exact h1
    rw [if_neg (by simp only [Bool.or_eq_true, decide_eq_true_eq, hs]; simp; omega)]
    exact h5
theorem fillP_ok {place : Nat → Option (Nat × Option Nat)} {place' : Nat → Option (Nat × Nat)} (hpl : ∀ i off n, place i = some (off, n) → place' i = some (off, cnt n)) :
    ∀ {ps : List (Nat × Operand)} {gs : List (Nat × Option Nat × Arg)} {zs zs' : List PVal} {cells : Array Value}, cParts place ps = some gs → fillP zs f gs = some zs' → ReadsOK G w f a (gs.flatMap fun p => p.2.2.tmps) →
      Rows (PR G.S w) zs cells → ∃ cells', Instr.fill place' cells (ps.map fun (i, x) => (i, a.eval x)) = some cells' ∧ Rows (PR G.S w) zs' cells'
  | [], gs, zs, zs', cells, hg, hf, _, hz => by
    simp only [cParts, Option.some.injEq] at hg
    subst hg
    simp only [fillP, Option.some.injEq] at hf
    subst hf
    exact ⟨cells, rfl, hz⟩
  | (i, x) :: ps, gs, zs, zs', cells, hg, hf, hr, hz => by
    simp only [cParts, Option.bind_eq_some_iff, Option.map_eq_some_iff] at hg
    obtain ⟨⟨off, n⟩, hp, y, hy, gs', hgs, rfl⟩ := hg
    simp only [fillP, Option.bind_eq_some_iff] at hf
    obtain ⟨cs, hcs, pp, hpp, z1, hz1, hf⟩ := hf
    have hx := arg_ok hy fun t ht => hr t (by simp only [List.flatMap_cons, List.mem_append]; exact .inl ht)
    obtain ⟨h1, h2⟩ := cells_rows hcs hx
    obtain ⟨h3, h4⟩ := hz.lay (pures_rows hpp h2) hz1
    obtain ⟨cells', h5, h6⟩ := fillP_ok hpl hgs hf (fun t ht => hr t (by simp only [List.flatMap_cons, List.mem_append]; exact .inr ht)) h4
    refine ⟨cells', ?_, h6⟩
    simp only [List.map_cons, Instr.fill, hpl _ _ _ hp]
    have hs : (a.eval x).cells.size = cnt n := by rw [← h2.1]; exact h1
    rw [if_neg (by simp only [Bool.or_eq_true, decide_eq_true_eq, hs]; simp; omega)]
    exact h5

theorem shp_ok {t : TypeId} {n : Option Nat} (h : shp P t = some n) : ∃ d i, P.underlying t = some d ∧ P.info? t = some i ∧ i.size = cnt n ∧ n.isSome = isAggD d := by
  unfold shp at h
  split at h <;> try (cases h; done)
  rename_i d hd
  split at h <;> try (cases h; done)
  rename_i i hi
  refine ⟨d, i, hd, hi, ?_⟩
  cases hb : isAggD d with
  | true =>
    rw [hb] at h
    simp only [cond_true, Option.some.injEq] at h
    subst h
    exact ⟨rfl, rfl⟩
  | false =>
    rw [hb] at h
    simp only [cond_false] at h
    cases h1 : Nat.beq i.size 1 with
    | false => rw [h1] at h; cases h
    | true =>
      rw [h1] at h
      simp only [cond_true, Option.some.injEq] at h
      subst h
      exact ⟨beq_iff.1 h1, rfl⟩
theorem zeroCells_ok (G : Gh) (w : World) {t : TypeId} {cs : List AVal} (h : zeroCells P t = some cs) : ∃ i z n, P.info? t = some i ∧ i.zero = some z ∧ shp P t = some n ∧ cs.length = cnt n ∧ Rows (VR G w) cs z.cells ∧ (n = none → z.cells = #[z]) ∧ (∀ m, n = some m → ∃ us, z = .agg us) ∧ cs.all away1 = true := by
  unfold zeroCells at h
  simp only [Option.bind_eq_some_iff] at h
  obtain ⟨i, hi, h⟩ := h
  split at h <;> try (cases h; done)
  rename_i z hz
  simp only [Option.bind_eq_some_iff] at h
  obtain ⟨n, hn, v, hv, hcs⟩ := h
  obtain ⟨h1, _, _, h4, h5⟩ := cells_ok (G := G) (w := w) hcs (valA_ok hv)
  obtain ⟨_, h6⟩ := cells_rows (G := G) (w := w) hcs (valA_ok hv)
  refine ⟨i, z, n, hi, hz, hn, h1, h6, fun e => (h4 e).1, h5, ?_⟩
  unfold valA at hv
  cases n with
  | some m =>
    split at hv
    · simp only [Option.map_eq_some_iff] at hv
      obtain ⟨ys, hys, rfl⟩ := hv
      simp only [AVal.cells] at hcs
      cases hb : Nat.beq ys.length m with
      | false => rw [hb] at hcs; cases hcs
      | true =>
        rw [hb] at hcs
        simp only [cond_true, Option.some.injEq] at hcs
        subst hcs
        exact (valAs_ok (G := G) (w := w) hys).2.2
    · revert hv
      generalize Array.isEmpty _ = b
      intro hv
      cases b with
      | false => cases hv
      | true =>
        simp only [cond_true, Option.some.injEq] at hv
        subst hv
        cases hcs
    · have := (valA1_ok (G := G) (w := w) hv).2.2
      cases v <;> first | (cases hcs; done) | cases this
  | none =>
    split at hv
    · simp only [Option.map_eq_some_iff] at hv
      obtain ⟨ys, hys, rfl⟩ := hv
      cases hcs
    · revert hv
      generalize Array.isEmpty _ = b
      intro hv
      cases b with
      | false => cases hv
      | true =>
        simp only [cond_true, Option.some.injEq] at hv
        subst hv
        cases hcs
    · have h7 := (valA1_ok (G := G) (w := w) hv).2.2
      have : cs = [v] := by
        cases v with
        | p c => cases c <;> simp only [AVal.cells, Option.some.injEq] at hcs <;> first | exact hcs.symm | cases hcs
        | agg => cases hcs
        | tuple => cases hcs
        | junk => cases hcs
        | _ => simp only [AVal.cells, Option.some.injEq] at hcs; exact hcs.symm
      rw [this]
      simp [h7]

theorem mapM_get {α β : Type} {g : α → Option β} : ∀ {l : List α} {m : List β}, l.mapM g = some m → ∀ i : Nat, m[i]? = (l[i]?).bind g
  | [], m, h => by
    simp at h
    subst h
    intro i; simp
  | x :: xs, m, h => by
    simp only [List.mapM_cons, Option.bind_eq_bind, Option.pure_def, Option.bind_eq_some_iff, Option.some.injEq] at h
    obtain ⟨y, hy, ys, hys, rfl⟩ := h
    intro i
    cases i with
    | zero => simp [hy]
    | succ i => simpa using mapM_get hys i
theorem ok_build (t : TypeId) (ps : Array (Nat × Operand)) (hop : o.op = .build t ps) {fs : Array Field} (hfs : fieldsT P t = some fs) {zs : List AVal} (hz : zeroCells P t = some zs) {places : List (Nat × Nat)}
    (hp : (fs.toList.mapM fun f => (P.info? f.type).map fun i => (f.offset, i.size)) = some places) {gs : List (Nat × Option Nat × Arg)} (hg : cParts (fun i => (fs[i]?).bind fun f => (shp P f.type).map fun n => (f.offset, n)) ps.toList = some gs)
    (hr : ReadsOK G w f a (gs.flatMap fun p => p.2.2.tmps)) (hev : evPure f (.build zs gs) = some v) : PureOK P G w o a v := by
  obtain ⟨i, z, n, hi, hiz, hsh, hlen, hrows, _, hagg, _⟩ := zeroCells_ok G w hz
  simp only [evPure, Option.map_eq_some_iff] at hev
  obtain ⟨zs', hf, rfl⟩ := hev
  have hu := fieldsT_ok hfs
  have hpl : ∀ (i off : Nat) (n : Option Nat), ((fs[i]?).bind fun f => (shp P f.type).map fun n => (f.offset, n)) = some (off, n) → places.toArray[i]? = some (off, cnt n) := by
    intro i off n h
    simp only [Option.bind_eq_some_iff, Option.map_eq_some_iff] at h
    obtain ⟨fd, hfd, m, hm, h⟩ := h
    obtain ⟨d, inf, _, hinf, hsz, _⟩ := shp_ok hm
    simp only [List.getElem?_toArray]
    rw [mapM_get hp i]
    simp only [Array.getElem?_toList, hfd, Option.bind_some, hinf, Option.map_some]
    injection h with h1 h2
    subst h1; subst h2
    rw [hsz]
  obtain ⟨cells', h1, h2⟩ := fillA_ok (w := w) (f := f) (a := a) (place' := (places.toArray[·]?)) hpl hg hf hr hrows
  refine pure_of (exec_build t ps hop) (run_build w t _ cells' ?_) (Keep.refl w) (.agg zs' cells' h2.1 h2.2.1 h2.2.2)
  unfold Program.built
  simp only [hi, hu, hiz, hp]
  rw [Array.toList_map]
  exact h1

theorem replicate_rows {z : List PVal} {zc : Array Value} (hz : Rows (PR G.S w) z zc) (len : Nat) : Rows (PR G.S w) (List.replicate len z).flatten ((Array.range (len * zc.size)).map (zc[· % zc.size]!)) := by
  have hpos : ∀ i, i < len * zc.size → 0 < zc.size := fun i h => by
    rcases Nat.eq_zero_or_pos zc.size with e | e
    · rw [e, Nat.mul_zero] at h; omega
    · exact e
  have hget : ∀ i, i < len * zc.size → (List.replicate len z).flatten[i]? = z[i % zc.size]? := by
    intro i hi
    have hs := hpos i hi
    clear hpos
    induction len generalizing i with
    | zero => omega
    | succ len ih =>
      rw [List.replicate_succ, List.flatten_cons]
      by_cases c : i < zc.size
      · rw [List.getElem?_append_left (by rw [hz.1]; exact c), Nat.mod_eq_of_lt c]
      · rw [List.getElem?_append_right (by rw [hz.1]; omega), hz.1, ih (i - zc.size) (by rw [Nat.add_mul] at hi; omega), ← Nat.mod_eq_sub_mod (by omega : i ≥ zc.size)]
  refine ⟨by simp [hz.1], fun v hv => ?_, fun i c v hc hv => ?_⟩
  · simp only [Array.mem_map, Array.mem_range] at hv
    obtain ⟨i, hi, rfl⟩ := hv
    have hlt : i % zc.size < zc.size := Nat.mod_lt _ (hpos i hi)
    rw [getElem!_pos zc _ hlt]
    exact hz.2.1 _ (Array.getElem_mem hlt)
  · have hi : i < len * zc.size := by
      have := (Array.getElem?_eq_some_iff.1 hv).1
      simpa using this
    have hlt : i % zc.size < zc.size := Nat.mod_lt _ (hpos i hi)
    rw [hget i hi] at hc
    rw [Array.getElem?_map, Array.getElem?_range, if_pos hi, Option.map_some, Option.some.injEq] at hv
    rw [getElem!_pos zc _ hlt] at hv
    exact hz.2.2 _ c v hc (by rw [← hv]; exact Array.getElem?_eq_getElem hlt)
/-- A row of a block that nobody owns. -/
theorem PR.row_of {S : Nat → Nat → Prop} {b len : Nat} {zs : List PVal} {cells : Array Value} {E : TypeId} (hb : w.heap[b]? = some (.cells cells E (0, 0))) (hr : Rows (PR S w) zs cells) (hz : len = 0 ↔ zs = []) (hS : ∀ i, i < cells.size → S b i) :
    PR S w (.sl len zs) (.slice (some ⟨b, 0, none⟩) len len) := by
  refine .sl len zs _ len cells.toList (Nat.le_refl _) (by simpa using hr.1) hz (fun u hu => hr.2.1 u (by simpa using hu)) (fun i u hu => ?_) (fun i c u hc hu => hr.2.2 i c u hc (by simpa using hu))
  have hu' : cells[i]? = some u := by simpa using hu
  refine ⟨_, rfl, ?_, ?_⟩
  · rw [add_mk]
    unfold World.cell?
    simp [hb, hu']
  · simpa using hS i (Array.getElem?_eq_some_iff.1 hu').1

theorem run_buildSlice' (w : World) (t e : TypeId) (len : Nat) (parts : Array (Nat × Value)) (cells : Array Value) (ie : TypeInfo) (z : Value)
    (hu : P.underlying t = some (.slice e)) (hie : P.info? e = some ie) (hz : ie.zero = some z) (hsmall : ¬ len * ie.size > 2 ^ 24)
    (h : Instr.fill (fun i => some (i * ie.size, ie.size)) ((Array.range (len * ie.size)).map (z.cells[· % z.cells.size]!)) parts.toList = some cells) :
    (Instr.buildSlice t len parts).run P w = .ok (.slice (some ⟨w.heap.size, 0, none⟩) len len) (w.alloc (.cells cells e)) := by
  by_cases hpos : len * ie.size = 0
  · have e : ∀ g : Nat → Value, (Array.range 0).map g = #[] := fun g => by simp
    rw [hpos, e] at h
    simp only [Instr.buildSlice, Sem.run_bind, run_underlying hu, run_sizeOf' hie, Result.andThen_ok, hpos, if_true, ↓reduceIte, e, Sem.run_pure, h, newRow]
    simp [e, h]
  · exact run_buildSlice w t e len parts cells ie z hu hie hz hsmall hpos h
theorem pures_away : ∀ {xs : List AVal} {ps : List PVal}, pures xs = some ps → ps.length = xs.length := fun h => (pures_ok h).1
theorem fillP_length {zs zs' : List PVal} : ∀ {gs : List (Nat × Option Nat × Arg)}, fillP zs f gs = some zs' → zs'.length = zs.length := by
  intro gs
  induction gs generalizing zs with
  | nil =>
    intro h
    simp only [fillP, Option.some.injEq] at h
    rw [h]
  | cons p gs ih =>
    obtain ⟨off, n, x⟩ := p
    intro h
    simp only [fillP, Option.bind_eq_some_iff] at h
    obtain ⟨cs, _, pp, _, z1, hz1, h⟩ := h
    rw [ih h, over_length hz1]
theorem ok_mks (t : TypeId) (len : Nat) (ps : Array (Nat × Operand)) (hop : o.op = .buildSlice t len ps) (hfree : G.own w.heap.size = .free) {e : TypeId} (ht : sliceT P t = some e) {sz : Nat} (hs : sizeT P e = some sz) {n : Option Nat} (hn : shp P e = some n)
    {zs : List AVal} (hz : zeroCells P e = some zs) {z : List PVal} (hp : pures zs = some z) (hle : len * sz ≤ 100000) {gs : List (Nat × Option Nat × Arg)} (hg : cParts (fun i => some (i * sz, n)) ps.toList = some gs)
    (hr : ReadsOK G w f a (gs.flatMap fun p => p.2.2.tmps)) (hev : evPure f (.mks len (List.replicate len z).flatten gs) = some v) : PureOK P G w o a v := by
  obtain ⟨i, zv, n', hi, hiz, hsh, hlen, hrows, _⟩ := zeroCells_ok G w hz
  obtain ⟨hs0, i', hi', his⟩ := sizeT_ok hs
  obtain ⟨_, i'', _, hi'', hsz, _⟩ := shp_ok hn
  rw [hi] at hi' hi''
  cases hi'; cases hi''
  rw [hn] at hsh
  cases hsh
  have hu := sliceT_ok ht
  simp only [evPure, Option.map_eq_some_iff] at hev
  obtain ⟨zs', hf, rfl⟩ := hev
  have hzc : zv.cells.size = sz := by rw [← hrows.1, hlen, ← hsz, his]
  have hr0 := replicate_rows (pures_rows hp hrows) len
  rw [hzc] at hr0
  obtain ⟨cells', h1, h2⟩ := fillP_ok (w := w) (f := f) (a := a) (place' := fun i => some (i * sz, sz)) (fun i off n h => by
    simp only [Option.some.injEq, Prod.mk.injEq] at h ⊢
    obtain ⟨rfl, rfl⟩ := h
    exact ⟨rfl, by omega⟩) hg hf hr hr0
  have hsmall : ¬ len * i.size > 2 ^ 24 := by rw [his]; omega
  refine pure_of (exec_buildSlice t len ps hop) (run_buildSlice' w t e len _ cells' i zv hu hi hiz hsmall ?_) (Keep.alloc w _) (.full _ _ _ ?_)
  · rw [his, hzc, Array.toList_map]
    exact h1
  · refine PR.row_of (heap_alloc_new w _) ⟨h2.1, h2.2.1, fun i c v hc hv => (h2.2.2 i c v hc hv).ext ((Keep.alloc w _).ext G)⟩ ?_ (fun i _ => by unfold Gh.S; rw [hfree]; trivial)
    have hl1 : zs'.length = len * sz := by
      rw [fillP_length hf]
      have := hr0.1
      simpa using this
    constructor
    · intro e0
      subst e0
      rw [Nat.zero_mul] at hl1
      exact List.length_eq_zero_iff.1 hl1
    · intro e0
      rw [e0] at hl1
      simp only [List.length_nil] at hl1
      rcases Nat.eq_zero_or_pos len with e1 | e1
      · exact e1
      · have : 0 < len * sz := Nat.mul_pos e1 hs0
        omega
end Go.AI

/- Operations that look at the frame alone: all of them. -/
namespace Go.AI
variable {P : Program} {G : Gh} {w : World} {f : Tr AVal} {a : Act} {o : Oper} {v : AVal} {lof : Nat → Option Nat} {dr : Bool} {i : Ins}

theorem cond_none {α : Type} {b : Bool} {x : Option α} {y : α} (h : cond b x none = some y) : b = true ∧ x = some y := by
  cases b with
  | true => exact ⟨rfl, h⟩
  | false => cases h
theorem none_cond {α : Type} {b : Bool} {x : Option α} {y : α} (h : cond b none x = some y) : b = false ∧ x = some y := by
  cases b with
  | true => cases h
  | false => exact ⟨rfl, h⟩

theorem pure_ok (hi : cIns P lof dr o = some i) (hp : isPure i = true) (hfree : G.own w.heap.size = .free) (hr : ReadsOK G w f a (i.args.flatMap Arg.tmps)) (hev : evPure f i = some v) : PureOK P G w o a v := by
  cases hop : o.op <;> simp only [cIns, hop, Option.bind_eq_some_iff, Option.map_eq_some_iff] at hi <;> try (cases hi; done)
  case move x =>
    obtain ⟨g, hg, rfl⟩ := hi
    exact ok_move x (.inl hop) hg (by simpa [Ins.args] using hr) hev
  case assign x =>
    obtain ⟨g, hg, rfl⟩ := hi
    exact ok_move x (.inr hop) hg (by simpa [Ins.args] using hr) hev
  case pick c x y =>
    obtain ⟨gc, hc, gx, hx, gy, hy, rfl⟩ := hi
    exact ok_pick c x y hop hc hx hy (by simpa [Ins.args] using hr) hev
  case alloc t =>
    obtain ⟨d, _, z, _, hi⟩ := hi
    split at hi <;> cases dr <;> simp only [cond_true, cond_false] at hi <;> subst hi <;> cases hp
  case box t x =>
    obtain ⟨d, _, n, _, g, _, hi⟩ := hi
    obtain ⟨_, hi⟩ := none_cond hi
    split at hi <;> simp only [Option.some.injEq] at hi <;> subst hi <;> cases hp
  case build t ps =>
    obtain ⟨fs, hfs, z, hz, pl, hpl, gs, hgs, rfl⟩ := hi
    exact ok_build t ps hop hfs hz hpl hgs (by simpa [Ins.args, List.flatMap_map] using hr) hev
  case buildSlice t len ps =>
    obtain ⟨e, he, sz, hsz, n, hn, zs, hzs, z, hz, hi⟩ := hi
    obtain ⟨hle, hi⟩ := cond_none hi
    simp only [Option.map_eq_some_iff] at hi
    obtain ⟨gs, hgs, rfl⟩ := hi
    exact ok_mks t len ps hop hfree he hsz hn hzs hz (ble_iff.1 hle) hgs (by simpa [Ins.args, List.flatMap_map] using hr) hev
  case load t x =>
    obtain ⟨n, _, g, _, rfl⟩ := hi
    cases hp
  case store t x y =>
    obtain ⟨n, _, g, _, h, _, rfl⟩ := hi
    cases hp
  case nilCheck x =>
    obtain ⟨g, hg, rfl⟩ := hi
    exact ok_nck x hop hg (by simpa [Ins.args] using hr) hev
  case binOp op t x y u =>
    obtain ⟨gx, hx, gy, hy, hi⟩ := hi
    split at hi
    · refine ok_eq .eql t u x y hop false rfl hx hy hi ?_ hev
      have : i.args = [gx, gy] := by
        unfold cEq at hi
        split at hi
        · obtain ⟨_, hi⟩ := cond_none hi
          simp only [Option.map_eq_some_iff] at hi
          obtain ⟨ks, _, rfl⟩ := hi
          rfl
        · simp only [Option.bind_eq_some_iff] at hi
          obtain ⟨k, _, hi⟩ := hi
          split at hi
          · simp only [Option.some.injEq] at hi; subst hi; rfl
          · simp only [Option.some.injEq] at hi; subst hi; rfl
          · obtain ⟨_, hi⟩ := cond_none hi
            simp only [Option.some.injEq] at hi; subst hi; rfl
          · simp only [Option.some.injEq] at hi; subst hi; rfl
      rw [this] at hr
      simpa using hr
    · refine ok_eq .neq t u x y hop true rfl hx hy hi ?_ hev
      have : i.args = [gx, gy] := by
        unfold cEq at hi
        split at hi
        · obtain ⟨_, hi⟩ := cond_none hi
          simp only [Option.map_eq_some_iff] at hi
          obtain ⟨ks, _, rfl⟩ := hi
          rfl
        · simp only [Option.bind_eq_some_iff] at hi
          obtain ⟨k, _, hi⟩ := hi
          split at hi
          · simp only [Option.some.injEq] at hi; subst hi; rfl
          · simp only [Option.some.injEq] at hi; subst hi; rfl
          · obtain ⟨_, hi⟩ := cond_none hi
            simp only [Option.some.injEq] at hi; subst hi; rfl
          · simp only [Option.some.injEq] at hi; subst hi; rfl
      rw [this] at hr
      simpa using hr
    · cases hi
    · cases hi
    · rename_i n1 n2 _ _
      simp only [Option.some.injEq] at hi
      subst hi
      exact ok_bin op t u x y hop ⟨fun e => n1 e, fun e => n2 e⟩ hx hy (by simpa [Ins.args] using hr) hev
  case unOp op t x =>
    cases op <;> simp only [Option.map_eq_some_iff] at hi <;> try (cases hi; done)
    obtain ⟨g, hg, rfl⟩ := hi
    exact ok_not t x hop hg (by simpa [Ins.args] using hr) hev
  case convert s t x =>
    split at hi <;> try (cases hi; done)
    rename_i hs
    split at hi <;> try (cases hi; done)
    rename_i ht
    simp only [Option.map_eq_some_iff] at hi
    obtain ⟨g, hg, rfl⟩ := hi
    exact ok_cvt s t x hop hs ht hg (by simpa [Ins.args] using hr) hev
  case makeFunc fn x y =>
    cases fn <;> simp only [Option.bind_eq_some_iff, Option.map_eq_some_iff] at hi <;> try (cases hi; done)
    obtain ⟨gx, hx, gy, hy, rfl⟩ := hi
    exact ok_mkf _ x y hop hx hy (by simpa [Ins.args] using hr) hev
  case makeSlice t x y =>
    obtain ⟨e, _, inf, _, hi⟩ := hi
    split at hi <;> try (cases hi; done)
    obtain ⟨_, hi⟩ := cond_none hi
    simp only [Option.map_eq_some_iff] at hi
    obtain ⟨g, _, rfl⟩ := hi
    cases hp
  case slice t x lo hi' mx =>
    obtain ⟨hmx, hk⟩ := none_cond hi
    clear hi
    cases mx with
    | some m => cases hmx
    | none =>
    split at hk <;> try (cases hk; done)
    · rename_i ht
      simp only [Option.bind_eq_some_iff, Option.map_eq_some_iff] at hk
      obtain ⟨sz, hsz, g, hg, gl, hl, gh, hh, rfl⟩ := hk
      exact ok_slice t x lo hi' hop ht hsz hg hl hh (by simpa [Ins.args] using hr) hev
    · rename_i ht
      simp only [Option.bind_eq_some_iff, Option.map_eq_some_iff] at hk
      obtain ⟨g, hg, gl, hl, gh, hh, rfl⟩ := hk
      exact ok_sstr t x lo hi' hop ht hg hl hh (by simpa [Ins.args] using hr) hev
  case fieldAddr t x j =>
    obtain ⟨fs, hfs, fd, hfd, n, hn, g, hg, rfl⟩ := hi
    exact ok_fa t x j hop hfs hfd hn hg (by simpa [Ins.args] using hr) hev
  case indexAddr t x y =>
    obtain ⟨e, he, sz, hsz, gx, hx, gy, hy, rfl⟩ := hi
    exact ok_ia t x y hop he hsz hx hy (by simpa [Ins.args] using hr) hev
  case index t x y =>
    split at hi <;> try (cases hi; done)
    rename_i ht
    simp only [Option.bind_eq_some_iff, Option.map_eq_some_iff] at hi
    obtain ⟨gx, hx, gy, hy, rfl⟩ := hi
    exact ok_idx t x y hop ht hx hy (by simpa [Ins.args] using hr) hev
  case extract x j =>
    obtain ⟨g, hg, rfl⟩ := hi
    exact ok_ext x j hop hg (by simpa [Ins.args] using hr) hev
  case makeMap t r =>
    cases r with
    | some r => simp only [reduceCtorEq] at hi
    | none =>
    simp only [] at hi
    split at hi <;> try (cases hi; done)
    obtain ⟨_, hk⟩ := none_cond hi
    simp only [Option.some.injEq] at hk
    subst hk
    cases hp
  case insert t x y z =>
    split at hi <;> try (cases hi; done)
    simp only [Option.bind_eq_some_iff, Option.map_eq_some_iff] at hi
    obtain ⟨_, _, gx, hx, gy, hy, gz, hz, rfl⟩ := hi
    cases hp
  case mapUpdate t x y z =>
    split at hi <;> try (cases hi; done)
    simp only [Option.bind_eq_some_iff, Option.map_eq_some_iff] at hi
    obtain ⟨_, _, gx, hx, gy, hy, gz, hz, rfl⟩ := hi
    cases hp
  case lookup t x y ok =>
    split at hi <;> try (cases hi; done)
    simp only [Option.bind_eq_some_iff] at hi
    obtain ⟨_, _, inf, _, hi⟩ := hi
    split at hi <;> try (cases hi; done)
    simp only [Option.bind_eq_some_iff, Option.map_eq_some_iff] at hi
    obtain ⟨z, _, gx, hx, gy, hy, rfl⟩ := hi
    cases hp
  case call c =>
    split at hi
    · simp only [Option.map_eq_some_iff] at hi
      obtain ⟨_, _, rfl⟩ := hi
      cases hp
    · simp only [Option.map_eq_some_iff] at hi
      obtain ⟨_, _, rfl⟩ := hi
      cases hp
    · split at hi <;> try (cases hi; done)
      split at hi <;> try (cases hi; done)
      simp only [Option.bind_eq_some_iff] at hi
      obtain ⟨e, _, inf, _, hi⟩ := hi
      obtain ⟨_, hi⟩ := cond_none hi
      split at hi <;> try (cases hi; done)
      obtain ⟨_, hi⟩ := cond_none hi
      simp only [Option.bind_eq_some_iff, Option.map_eq_some_iff] at hi
      obtain ⟨gx, hx, gy, hy, rfl⟩ := hi
      cases hp
    · rename_i hc
      split at hi <;> try (cases hi; done)
      rename_i hxs
      split at hi <;> try (cases hi; done)
      rename_i hts
      split at hi <;> try (cases hi; done)
      · rename_i ht
        simp only [Option.map_eq_some_iff] at hi
        obtain ⟨g, hg, rfl⟩ := hi
        exact ok_lenS c hop hc hxs hts ht hg (by simpa [Ins.args] using hr) hev
      · rename_i ht
        simp only [Option.map_eq_some_iff] at hi
        obtain ⟨g, hg, rfl⟩ := hi
        exact ok_lenR c hop hc hxs hts ht hg (by simpa [Ins.args] using hr) hev
    · rename_i hc
      split at hi <;> try (cases hi; done)
      rename_i hxs
      simp only [Option.bind_eq_some_iff, Option.map_eq_some_iff] at hi
      obtain ⟨gx, hx, gy, hy, rfl⟩ := hi
      exact ok_min c hop false hc hxs hx hy (by simpa [Ins.args] using hr) hev
    · rename_i hc
      split at hi <;> try (cases hi; done)
      rename_i hxs
      simp only [Option.bind_eq_some_iff, Option.map_eq_some_iff] at hi
      obtain ⟨gx, hx, gy, hy, rfl⟩ := hi
      exact ok_min c hop true hc hxs hx hy (by simpa [Ins.args] using hr) hev
    · cases hi
end Go.AI
