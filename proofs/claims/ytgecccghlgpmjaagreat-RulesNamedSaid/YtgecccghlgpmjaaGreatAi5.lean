/- Part 5 of an interpreter for the code of the model, proved sound: regions that draw; code; calls. No condition. -/
import Derived.Test.YtgecccghlgpmjaaGreatAi4
import Derived.LoopNIn
set_option linter.unusedVariables false
set_option linter.unusedSimpArgs false
/- Regions that draw their order: what is laid ahead. -/
namespace Go.AI
variable {P : Program} {E : Heap} {lof : Nat → Option Nat} {U pd : Nat → Option (List AVal)} {l : Tr (Nat × List AVal)} {s : ASt} {G : Gh} {w : World}

def NodupK {α : Type} : List (Nat × α) → Prop
  | [] => True
  | (d, _) :: r => assoc r d = none ∧ NodupK r
theorem assoc_key {α : Type} {l : List (Nat × α)} {k : Nat} {v : α} (h : assoc l k = some v) : (l.map (·.1)).contains k = true := by
  rw [List.contains_iff_mem]
  exact List.mem_map.2 ⟨_, assoc_mem h, rfl⟩
theorem assoc_nokey {α : Type} {l : List (Nat × α)} {k : Nat} (h : (l.map (·.1)).contains k = false) : assoc l k = none := by
  cases e : assoc l k with
  | none => rfl
  | some v => rw [assoc_key e] at h; cases h

structure PreOK (P : Program) (lof : Nat → Option Nat) (l : List Oper) (A B : List (Nat × List AVal)) : Prop where
  al : ∀ (i : Nat) o t, l[i]? = some o → o.op = .alloc t → o.guard = none ∧ ∃ d z, o.dst = some d ∧ zeroCells P t = some z ∧ ((∃ q, lof d = some q ∧ assoc A q = some z) ∨ (lof d = none ∧ assoc B d = some z))
  a : ∀ q z, assoc A q = some z → ∃ (i : Nat) (o : Oper) (t : TypeId) (d : Nat), l[i]? = some o ∧ o.op = .alloc t ∧ o.dst = some d ∧ lof d = some q ∧ zeroCells P t = some z
  b : ∀ d z, assoc B d = some z → ∃ (i : Nat) (o : Oper) (t : TypeId), l[i]? = some o ∧ o.op = .alloc t ∧ o.dst = some d ∧ lof d = none ∧ zeroCells P t = some z
  ua : ∀ (i j : Nat) o o' t t' d d' q, l[i]? = some o → l[j]? = some o' → o.op = .alloc t → o'.op = .alloc t' → o.dst = some d → o'.dst = some d' → lof d = some q → lof d' = some q → i = j
  ub : ∀ (i j : Nat) o o' t t' d, l[i]? = some o → l[j]? = some o' → o.op = .alloc t → o'.op = .alloc t' → o.dst = some d → o'.dst = some d → lof d = none → i = j
  na : NodupK A
  nb : NodupK B
theorem pre_spec : ∀ (l : List Oper) (A B : List (Nat × List AVal)), preOf P lof l = some (A, B) → PreOK P lof l A B
  | [], A, B, h => by
    simp only [preOf, Option.some.injEq, Prod.mk.injEq] at h
    obtain ⟨rfl, rfl⟩ := h
    exact ⟨fun i o t h => (by simp at h), fun q z h => (by cases h), fun q z h => (by cases h), fun i j o o' t t' d d' q h => (by simp at h), fun i j o o' t t' d h => (by simp at h), trivial, trivial⟩
  | o :: r, A, B, h => by
    simp only [preOf, Option.bind_eq_some_iff] at h
    obtain ⟨⟨A', B'⟩, hr, h⟩ := h
    have K := pre_spec r A' B' hr
    by_cases hal : ∃ t, o.op = .alloc t
    · obtain ⟨t, hop⟩ := hal
      simp only [hop, Option.bind_eq_some_iff] at h
      obtain ⟨d, hd, h⟩ := h
      obtain ⟨hg, h⟩ := none_cond h
      simp only [Option.bind_eq_some_iff] at h
      obtain ⟨z, hz, h⟩ := h
      have hgn : o.guard = none := by cases e : o.guard with
        | none => rfl
        | some g => rw [e] at hg; cases hg
      split at h
      · rename_i q hq
        obtain ⟨hc, h⟩ := none_cond h
        simp only [Option.some.injEq, Prod.mk.injEq] at h
        obtain ⟨rfl, rfl⟩ := h
        have hnk := assoc_nokey hc
        have hother : ∀ (j : Nat) o' t' d', r[j]? = some o' → o'.op = .alloc t' → o'.dst = some d' → lof d' = some q → False := by
          intro j o' t' d' hj hop' hd' hl'
          obtain ⟨_, d2, z2, e1, _, e3⟩ := K.al j o' t' hj hop'
          rw [hd'] at e1
          cases e1
          rcases e3 with ⟨q2, e4, e5⟩ | ⟨e4, _⟩
          · rw [hl'] at e4; cases e4; rw [hnk] at e5; cases e5
          · rw [hl'] at e4; cases e4
        refine ⟨fun i o' t' hi hop' => ?_, fun q' z' hq' => ?_, fun d' z' hd' => ?_, fun i j o1 o2 t1 t2 d1 d2 q' h1 h2 h3 h4 h5 h6 h7 h8 => ?_, fun i j o1 o2 t1 t2 d1 h1 h2 h3 h4 h5 h6 h7 => ?_, ⟨hnk, K.na⟩, K.nb⟩
        · cases i with
          | zero =>
            simp only [List.getElem?_cons_zero, Option.some.injEq] at hi
            subst hi
            rw [hop] at hop'
            cases hop'
            exact ⟨hgn, d, z, hd, hz, .inl ⟨q, hq, by rw [assoc_cons, if_pos rfl]⟩⟩
          | succ i =>
            obtain ⟨k1, d', z', k2, k3, k4⟩ := K.al i o' t' (by simpa using hi) hop'
            refine ⟨k1, d', z', k2, k3, k4.imp (fun ⟨q', k5, k6⟩ => ⟨q', k5, ?_⟩) id⟩
            rw [assoc_cons, if_neg (fun e => by subst e; rw [hnk] at k6; cases k6)]
            exact k6
        · rw [assoc_cons] at hq'
          split at hq'
          · rename_i e
            subst e
            cases hq'
            exact ⟨0, o, t, d, rfl, hop, hd, hq, hz⟩
          · obtain ⟨i, o', t', d', k1, k2⟩ := K.a q' z' hq'
            exact ⟨i + 1, o', t', d', by simpa using k1, k2⟩
        · obtain ⟨i, o', t', k1, k2⟩ := K.b d' z' hd'
          exact ⟨i + 1, o', t', by simpa using k1, k2⟩
        · cases i with
          | zero =>
            cases j with
            | zero => rfl
            | succ j =>
              simp only [List.getElem?_cons_zero, Option.some.injEq] at h1
              subst h1
              rw [hd] at h5
              cases h5
              rw [hq] at h7
              cases h7
              exact (hother j o2 t2 d2 (by simpa using h2) h4 h6 h8).elim
          | succ i =>
            cases j with
            | zero =>
              simp only [List.getElem?_cons_zero, Option.some.injEq] at h2
              subst h2
              rw [hd] at h6
              cases h6
              rw [hq] at h8
              cases h8
              exact (hother i o1 t1 d1 (by simpa using h1) h3 h5 h7).elim
            | succ j => rw [K.ua i j o1 o2 t1 t2 d1 d2 q' (by simpa using h1) (by simpa using h2) h3 h4 h5 h6 h7 h8]
        · cases i with
          | zero =>
            simp only [List.getElem?_cons_zero, Option.some.injEq] at h1
            subst h1
            rw [hd] at h5
            cases h5
            rw [hq] at h7
            cases h7
          | succ i =>
            cases j with
            | zero =>
              simp only [List.getElem?_cons_zero, Option.some.injEq] at h2
              subst h2
              rw [hd] at h6
              cases h6
              rw [hq] at h7
              cases h7
            | succ j => rw [K.ub i j o1 o2 t1 t2 d1 (by simpa using h1) (by simpa using h2) h3 h4 h5 h6 h7]
      · rename_i hq
        obtain ⟨hc, h⟩ := none_cond h
        simp only [Option.some.injEq, Prod.mk.injEq] at h
        obtain ⟨rfl, rfl⟩ := h
        have hnk := assoc_nokey hc
        have hother : ∀ (j : Nat) o' t', r[j]? = some o' → o'.op = .alloc t' → o'.dst = some d → False := by
          intro j o' t' hj hop' hd'
          obtain ⟨_, d2, z2, e1, _, e3⟩ := K.al j o' t' hj hop'
          rw [hd'] at e1
          cases e1
          rcases e3 with ⟨q2, e4, e5⟩ | ⟨_, e4⟩
          · rw [hq] at e4; cases e4
          · rw [hnk] at e4; cases e4
        refine ⟨fun i o' t' hi hop' => ?_, fun q' z' hq' => ?_, fun d' z' hd' => ?_, fun i j o1 o2 t1 t2 d1 d2 q' h1 h2 h3 h4 h5 h6 h7 h8 => ?_, fun i j o1 o2 t1 t2 d1 h1 h2 h3 h4 h5 h6 h7 => ?_, K.na, ⟨hnk, K.nb⟩⟩
        · cases i with
          | zero =>
            simp only [List.getElem?_cons_zero, Option.some.injEq] at hi
            subst hi
            rw [hop] at hop'
            cases hop'
            exact ⟨hgn, d, z, hd, hz, .inr ⟨hq, by rw [assoc_cons, if_pos rfl]⟩⟩
          | succ i =>
            obtain ⟨k1, d', z', k2, k3, k4⟩ := K.al i o' t' (by simpa using hi) hop'
            refine ⟨k1, d', z', k2, k3, k4.imp id fun ⟨k5, k6⟩ => ⟨k5, ?_⟩⟩
            rw [assoc_cons, if_neg (fun e => by subst e; rw [hnk] at k6; cases k6)]
            exact k6
        · obtain ⟨i, o', t', d', k1, k2⟩ := K.a q' z' hq'
          exact ⟨i + 1, o', t', d', by simpa using k1, k2⟩
        · rw [assoc_cons] at hd'
          split at hd'
          · rename_i e
            subst e
            cases hd'
            exact ⟨0, o, t, rfl, hop, hd, hq, hz⟩
          · obtain ⟨i, o', t', k1, k2⟩ := K.b d' z' hd'
            exact ⟨i + 1, o', t', by simpa using k1, k2⟩
        · cases i with
          | zero =>
            simp only [List.getElem?_cons_zero, Option.some.injEq] at h1
            subst h1
            rw [hd] at h5
            cases h5
            rw [hq] at h7
            cases h7
          | succ i =>
            cases j with
            | zero =>
              simp only [List.getElem?_cons_zero, Option.some.injEq] at h2
              subst h2
              rw [hd] at h6
              cases h6
              rw [hq] at h8
              cases h8
            | succ j => rw [K.ua i j o1 o2 t1 t2 d1 d2 q' (by simpa using h1) (by simpa using h2) h3 h4 h5 h6 h7 h8]
        · cases i with
          | zero =>
            cases j with
            | zero => rfl
            | succ j =>
              simp only [List.getElem?_cons_zero, Option.some.injEq] at h1
              subst h1
              rw [hd] at h5
              cases h5
              exact (hother j o2 t2 (by simpa using h2) h4 h6).elim
          | succ i =>
            cases j with
            | zero =>
              simp only [List.getElem?_cons_zero, Option.some.injEq] at h2
              subst h2
              rw [hd] at h6
              cases h6
              exact (hother i o1 t1 (by simpa using h1) h3 h5).elim
            | succ j => rw [K.ub i j o1 o2 t1 t2 d1 (by simpa using h1) (by simpa using h2) h3 h4 h5 h6 h7]
    · have h' : (A', B') = (A, B) := by
        split at h
        · rename_i t hop
          exact absurd ⟨t, hop⟩ hal
        · simpa using h
      simp only [Prod.mk.injEq] at h'
      obtain ⟨rfl, rfl⟩ := h'
      have sc : ∀ {i : Nat} {o' : Oper} {t' : TypeId}, (o :: r)[i]? = some o' → o'.op = .alloc t' → ∃ k, i = k + 1 ∧ r[k]? = some o' := by
        intro i o' t' hi hop'
        cases i with
        | zero =>
          simp only [List.getElem?_cons_zero, Option.some.injEq] at hi
          subst hi
          exact absurd ⟨t', hop'⟩ hal
        | succ i => exact ⟨i, rfl, by simpa using hi⟩
      refine ⟨fun i o' t' hi hop' => ?_, fun q' z' hq' => ?_, fun d' z' hd' => ?_, fun i j o1 o2 t1 t2 d1 d2 q' h1 h2 h3 h4 h5 h6 h7 h8 => ?_, fun i j o1 o2 t1 t2 d1 h1 h2 h3 h4 h5 h6 h7 => ?_, K.na, K.nb⟩
      · obtain ⟨k, rfl, hk⟩ := sc hi hop'
        exact K.al k o' t' hk hop'
      · obtain ⟨i, o', t', d', k1, k2⟩ := K.a q' z' hq'
        exact ⟨i + 1, o', t', d', by simpa using k1, k2⟩
      · obtain ⟨i, o', t', k1, k2⟩ := K.b d' z' hd'
        exact ⟨i + 1, o', t', by simpa using k1, k2⟩
      · obtain ⟨k, rfl, hk⟩ := sc h1 h3
        obtain ⟨k', rfl, hk'⟩ := sc h2 h4
        rw [K.ua k k' o1 o2 t1 t2 d1 d2 q' hk hk' h3 h4 h5 h6 h7 h8]
      · obtain ⟨k, rfl, hk⟩ := sc h1 h3
        obtain ⟨k', rfl, hk'⟩ := sc h2 h4
        rw [K.ub k k' o1 o2 t1 t2 d1 hk hk' h3 h4 h5 h6 h7]

/-- A local is laid abstractly. -/
theorem MR.lay (h : MR P E U pd l s G w) {i : Nat} (hp : pd i = none) (hh : l.has i = true) (zs : List AVal) : MR P E U (upd pd i (some zs)) (l.set i ((l.get (0, []) i).1 + 1, zs)) s G w := by
  refine ⟨h.own, h.bOf, h.lo_, h.un, fun j z hj => ?_, h.nt, fun j g cs hj hg hpj => ?_, fun j g b hb => ?_, h.heap, h.ro, h.tok⟩
  · rw [Tr.get_set _ _ _ _ _ hh]
    by_cases e : j = i
    · subst e
      rw [upd_eq] at hj
      cases hj
      rw [if_pos rfl]
      exact ⟨rfl, by simp⟩
    · rw [upd_ne _ _ _ e] at hj
      rw [if_neg (fun e' => e e'.symm)]
      exact h.pdz j z hj
  · by_cases e : j = i
    · subst e; rw [upd_eq] at hpj; cases hpj
    · rw [upd_ne _ _ _ e] at hpj
      rw [Tr.get_set_ne _ _ _ _ _ (fun e' => e e'.symm)] at hj
      exact h.loc j g cs hj hg hpj
  · obtain ⟨h1, h2, h3⟩ := h.lam j g b hb
    by_cases e : j = i
    · subst e
      rw [Tr.get_set_eq _ _ _ _ hh]
      exact ⟨h1, by simp only; omega, fun _ => by simp only; omega⟩
    · rw [Tr.get_set_ne _ _ _ _ _ (fun e' => e e'.symm), upd_ne _ _ _ e]
      exact ⟨h1, h2, h3⟩
theorem MR.preL : ∀ (A : List (Nat × List AVal)) {pd : Nat → Option (List AVal)} {l : Tr (Nat × List AVal)}, MR P E U pd l s G w → NodupK A → (∀ q z, assoc A q = some z → pd q = none ∧ l.has q = true) →
    MR P E U (fun q => match assoc A q with | some z => some z | none => pd q) (preL l A) s G w ∧ (∀ j, (preL l A).has j = l.has j)
  | [], pd, l, h, _, _ => ⟨h, fun _ => rfl⟩
  | (i, zs) :: r, pd, l, h, hn, hp => by
    obtain ⟨h1, h2⟩ := hp i zs (by rw [assoc_cons, if_pos rfl])
    have k := h.lay h1 h2 zs
    obtain ⟨k1, k2⟩ := MR.preL r k hn.2 (fun q z hq => by
      have e : q ≠ i := fun e => by subst e; rw [hn.1] at hq; cases hq
      obtain ⟨h3, h4⟩ := hp q z (by rw [assoc_cons, if_neg (fun e' => e e'.symm)]; exact hq)
      exact ⟨by rw [upd_ne _ _ _ e]; exact h3, by rw [Tr.has_set]; exact h4⟩)
    refine ⟨?_, fun j => ?_⟩
    · have : (fun q => match assoc ((i, zs) :: r) q with | some z => some z | none => pd q) = (fun q => match assoc r q with | some z => some z | none => upd pd i (some zs) q) := by
        funext q
        rw [assoc_cons]
        by_cases e : i = q
        · subst e
          rw [if_pos rfl, hn.1]
          simp [upd_eq]
        · rw [if_neg e]
          cases assoc r q with
          | some z => rfl
          | none => simp only; rw [upd_ne _ _ _ (fun e' => e e'.symm)]
      rw [this]
      exact k1
    · show (Go.AI.preL (l.set i ((l.get (0, []) i).1 + 1, zs)) r).has j = _
      rw [k2, Tr.has_set]
theorem MR.layH (h : MR P E U pd l s G w) (zs : List AVal) : MR P E (upd U s.next (some zs)) pd l (newObj s (.cells zs)) G w := by
  refine ⟨h.own, fun k b hb => Nat.lt_succ_of_lt (h.bOf k b hb), Nat.le_succ_of_le h.lo_, fun k z hk => ?_, h.pdz, h.nt, h.loc, h.lam, fun k o hk => ?_, h.ro, h.tok⟩
  · show G.bOf k = none ∧ assoc ((s.next, HObj.cells zs) :: s.heap) k = _ ∧ _
    rw [assoc_cons]
    by_cases e : k = s.next
    · subst e
      rw [upd_eq] at hk
      cases hk
      exact ⟨h.bOf_next, by rw [if_pos rfl], h.lo_⟩
    · rw [upd_ne _ _ _ e] at hk
      rw [if_neg (fun e' => e e'.symm)]
      exact h.un k z hk
  · have hk' : assoc ((s.next, HObj.cells zs) :: s.heap) k = some o := hk
    rw [assoc_cons] at hk'
    split at hk'
    · rename_i e
      subst e
      exact ⟨Nat.lt_succ_self _, .inl h.bOf_next⟩
    · obtain ⟨h1, h2⟩ := h.heap k o hk'
      exact ⟨Nat.lt_succ_of_lt h1, h2⟩
theorem MR.preH : ∀ (B : List (Nat × List AVal)) {U : Nat → Option (List AVal)} {s : ASt}, MR P E U pd l s G w → NodupK B → ∃ U', MR P E U' pd l (preH s B).1 G w ∧
    (∀ q z, U' q = some z ↔ U q = some z ∨ ∃ d, assoc (preH s B).2 d = some q ∧ assoc B d = some z) ∧ (∀ d z, assoc B d = some z → ∃ q, assoc (preH s B).2 d = some q) ∧ (∀ d q, assoc (preH s B).2 d = some q → s.next ≤ q) ∧
    (∀ d d' q, assoc (preH s B).2 d = some q → assoc (preH s B).2 d' = some q → d = d')
  | [], U, s, h, _ => ⟨U, h, fun q z => ⟨.inl, fun h => h.elim id fun ⟨d, h1, _⟩ => (by cases h1)⟩, fun d z h => (by cases h), fun d q h => (by cases h), fun d d' q h => (by cases h)⟩
  | (d0, zs) :: r, U, s, h, hn => by
    obtain ⟨U', k1, k2, k3, k4, k5⟩ := MR.preH r (h.layH zs) hn.2
    have e1 : (Go.AI.preH s ((d0, zs) :: r)).1 = (Go.AI.preH (newObj s (.cells zs)) r).1 := rfl
    have e2 : (Go.AI.preH s ((d0, zs) :: r)).2 = (d0, s.next) :: (Go.AI.preH (newObj s (.cells zs)) r).2 := rfl
    have hlt : ∀ d q, assoc (Go.AI.preH (newObj s (.cells zs)) r).2 d = some q → s.next < q := fun d q hq => k4 d q hq
    have hUn : ∀ z, U s.next = some z → False := fun z hz => by
      have := (h.heap _ _ (h.un _ _ hz).2.1).1
      omega
    refine ⟨U', by rw [e1]; exact k1, fun q z => ?_, fun d z hd => ?_, fun d q hq => ?_, fun d d' q hq hq' => ?_⟩
    · rw [k2, e2]
      constructor
      · rintro (hq | ⟨d, h1, h2⟩)
        · by_cases e : q = s.next
          · subst e
            rw [upd_eq] at hq
            cases hq
            exact .inr ⟨d0, by rw [assoc_cons, if_pos rfl], by rw [assoc_cons, if_pos rfl]⟩
          · rw [upd_ne _ _ _ e] at hq
            exact .inl hq
        · have e : d0 ≠ d := fun e => by subst e; rw [hn.1] at h2; cases h2
          exact .inr ⟨d, by rw [assoc_cons, if_neg e]; exact h1, by rw [assoc_cons, if_neg e]; exact h2⟩
      · rintro (hq | ⟨d, h1, h2⟩)
        · have e : q ≠ s.next := fun e => by subst e; exact hUn z hq
          exact .inl (by rw [upd_ne _ _ _ e]; exact hq)
        · rw [assoc_cons] at h1 h2
          by_cases e : d0 = d
          · rw [if_pos e] at h1 h2
            cases h1; cases h2
            exact .inl (upd_eq _ _ _)
          · rw [if_neg e] at h1 h2
            exact .inr ⟨d, h1, h2⟩
    · rw [e2]
      rw [assoc_cons] at hd ⊢
      by_cases e : d0 = d
      · rw [if_pos e]; exact ⟨_, rfl⟩
      · rw [if_neg e] at hd ⊢
        exact k3 d z hd
    · rw [e2, assoc_cons] at hq
      split at hq
      · cases hq; exact Nat.le_refl _
      · have := hlt d q hq; omega
    · rw [e2, assoc_cons] at hq hq'
      split at hq <;> split at hq'
      · rename_i e e'; rw [← e, ← e']
      · cases hq; have := hlt _ _ hq'; omega
      · cases hq'; have := hlt _ _ hq; omega
      · exact k5 d d' q hq hq'
end Go.AI

/- Regions that draw their order: all of them. -/
namespace Go.AI
variable {P : Program} {e : Env} {lof : Nat → Option Nat} {nt base : Nat} {ops : Array Oper}

theorem cOps_get {dr : Bool} : ∀ (l : List Oper) (cs : List COp), cOps P lof dr nt ops l = some cs → cs.length = l.length ∧ ∀ (i : Nat) o co, l[i]? = some o → cs[i]? = some co → cOp P lof dr nt ops o = some co
  | [], cs, h => by
    simp only [cOps, Option.some.injEq] at h
    subst h
    exact ⟨rfl, fun i o co h => by simp at h⟩
  | o :: r, cs, h => by
    simp only [cOps, Option.bind_eq_some_iff, Option.map_eq_some_iff] at h
    obtain ⟨c, hc, cs', hcs, rfl⟩ := h
    obtain ⟨h1, h2⟩ := cOps_get r cs' hcs
    refine ⟨by simp [h1], fun i o' co hi hj => ?_⟩
    cases i with
    | zero =>
      simp only [List.getElem?_cons_zero, Option.some.injEq] at hi hj
      subst hi; subst hj
      exact hc
    | succ i => exact h2 i o' co (by simpa using hi) (by simpa using hj)
theorem nums_mem {α : Type} {l : List α} {i : Nat} {x : α} (h : l[i]? = some x) : (i, x) ∈ nums l := by
  have hi : i < l.length := (List.getElem?_eq_some_iff.1 h).1
  unfold nums
  refine List.mem_iff_getElem?.2 ⟨i, ?_⟩
  rw [List.getElem?_zip_eq_some]
  exact ⟨by simp [hi], h⟩
theorem nums_get {α : Type} {l : List α} {i : Nat} {x : α} (h : (i, x) ∈ nums l) : l[i]? = some x := by
  unfold nums at h
  obtain ⟨k, hk⟩ := List.mem_iff_getElem?.1 h
  rw [List.getElem?_zip_eq_some] at hk
  obtain ⟨h1, h2⟩ := hk
  have : k = i := by
    obtain ⟨h3, h4⟩ := List.getElem?_eq_some_iff.1 h1
    simpa using h4
  subst this
  exact h2

/-- The check of a load. -/
theorem chk_ok (se : SoundEnv P e) {cs : List COp} {ms : List Nat} {T : List Cfg} {c0 last : Cfg} (hstep : ∀ (i : Nat) co, cs[i]? = some co → ∃ x y, T[i]? = some x ∧ T[i + 1]? = some y ∧ evOp e x co = some y) (hkind : ∀ (i : Nat) co, cs[i]? = some co → co.op.heavy = true ∨ co.op.light = true)
    (hall : (chksOf ms (nums cs)).all (okChk e T last) = true) (hst : (chksOf ms (nums cs)).all (chkStays (nums cs)) = true) (hlast : (T[cs.length]?).getD c0 = last)
    {i j : Nat} {co b : COp} {n : Option Nat} {g : Arg} (hi : cs[i]? = some co) (hl : isLoad co.op = some (n, g)) (hj : cs[j]? = some b) (hb : b.op.heavy = true) (hw1 : waits ms j i = false) (hw2 : waits ms i j = false) :
    loadFrom e.E ((T[j + 1]?).getD c0).l ((T[j + 1]?).getD c0).s (g.ev ((T[i]?).getD c0).f) (cnt n) = loadFrom e.E ((T[j]?).getD c0).l ((T[j]?).getD c0).s (g.ev ((T[i]?).getD c0).f) (cnt n) := by
  -- the record
  have hjs : (j, b.op.kind) ∈ (nums cs).filterMap (fun (j, b) => if b.op.heavy && !(waits ms j i) && !(waits ms i j) then some (j, b.op.kind) else none) :=
    List.mem_filterMap.2 ⟨(j, b), nums_mem hj, by simp [hb, hw1, hw2]⟩
  obtain ⟨k, hk, hkat, hkn, hka, hkj⟩ : ∃ k : Chk, k ∈ chksOf ms (nums cs) ∧ k.at_ = i ∧ k.n = n ∧ k.a = g ∧ (j, b.op.kind) ∈ k.js := by
    generalize hjs' : (nums cs).filterMap (fun (j, b) => if b.op.heavy && !(waits ms j i) && !(waits ms i j) then some (j, b.op.kind) else none) = js at hjs
    cases js with
    | nil => cases hjs
    | cons y ys =>
      refine ⟨{ at_ := i, n := n, a := g, js := y :: ys }, List.mem_filterMap.2 ⟨(i, co), nums_mem hi, ?_⟩, rfl, rfl, rfl, hjs⟩
      simp only [hl, Option.bind_some, hjs']
  subst hkat; subst hkn; subst hka
  have hok := List.all_eq_true.1 hall k hk
  have hsy := List.all_eq_true.1 hst k hk
  -- the address is the last frame's
  have hT : T.length ≥ cs.length + 1 ∨ cs.length = 0 := by
    rcases Nat.eq_zero_or_pos cs.length with h | h
    · exact .inr h
    · obtain ⟨x, y, _, h2, _⟩ := hstep (cs.length - 1) _ (List.getElem?_eq_getElem (by omega))
      have := (List.getElem?_eq_some_iff.1 h2).1
      exact .inl (by omega)
  have hil : k.at_ < cs.length := (List.getElem?_eq_some_iff.1 hi).1
  have hjl : j < cs.length := (List.getElem?_eq_some_iff.1 hj).1
  have haddr : k.a.ev last.f = k.a.ev ((T[k.at_]?).getD c0).f := by
    cases hka : k.a with
    | c v => rfl
    | t t =>
      show last.f.get undefA t = ((T[k.at_]?).getD c0).f.get undefA t
      rw [← hlast]
      have key : ∀ q, k.at_ ≤ q → q ≤ cs.length → ((T[q]?).getD c0).f.get undefA t = ((T[k.at_]?).getD c0).f.get undefA t := by
        intro q
        induction q with
        | zero => intro h1 _; rw [show k.at_ = 0 by omega]
        | succ q ih =>
          intro h1 h2
          by_cases h : k.at_ = q + 1
          · rw [h]
          · have hq : cs[q]? = some (cs[q]'(by omega)) := List.getElem?_eq_getElem (by omega)
            obtain ⟨x, y, h3, h4, h5⟩ := hstep q _ hq
            rw [← ih (by omega) (by omega), h3, h4]
            refine (evOp_draw (hkind q _ hq) h5).2.1 t fun hd => ?_
            have := List.all_eq_true.1 hsy (q, cs[q]'(by omega)) (nums_mem hq)
            simp only [Bool.or_eq_true, Bool.not_eq_true', List.all_eq_true] at this
            rcases this with h | h
            · have : Nat.ble k.at_ q = true := ble_iff.2 (by omega)
              rw [this] at h; cases h
            · have := h t (by unfold dstOf; rw [hd]; exact List.mem_singleton.2 rfl)
              rw [hka] at this
              simp [Arg.tmps] at this
      exact key cs.length (by omega) (Nat.le_refl _)
  rw [← haddr]
  obtain ⟨x, y, h3, h4, h5⟩ := hstep j b hj
  rw [h3, h4]
  simp only [Option.getD_some]
  have hl3 : lget T j = some x := by rw [lget_eq]; exact h3
  have hl4 : lget T (j + 1) = some y := by rw [lget_eq]; exact h4
  unfold okChk at hok
  split at hok
  · rename_i i' g' o' hav
    rw [hav]
    have := List.all_eq_true.1 hok _ hkj
    simp only [Bool.or_eq_true] at this
    rcases this with h | h
    · have hkd := blt_iff.1 h
      have hsame : y.l = x.l := by
        obtain ⟨bb, _, hT1, hF1⟩ := evOp_spec h5
        cases bb with
        | false => rw [hF1 rfl, Cfg.put_l]
        | true =>
          obtain ⟨v, z, hev, rfl⟩ := hT1 rfl
          rw [Cfg.put_l]
          generalize hop : b.op = op at hkd hev
          cases op <;> first | (exfalso; exact Nat.not_lt_zero _ hkd; done) | (exfalso; exact absurd hkd (Nat.not_lt_of_le (Nat.zero_le _)); done) | (exfalso; exact absurd hkd (Nat.lt_irrefl 1); done) | skip
          · simp only [evIns, Option.map_eq_some_iff, Prod.mk.injEq] at hev
            obtain ⟨_, _, _, rfl⟩ := hev
            rfl
          · simp only [evIns, Option.map_eq_some_iff, Prod.mk.injEq] at hev
            obtain ⟨_, _, _, rfl⟩ := hev
            rfl
      show loadFrom e.E y.l y.s (.lptr i' g' o') (cnt k.n) = loadFrom e.E x.l x.s (.lptr i' g' o') (cnt k.n)
      unfold loadFrom
      rw [hsame]
    · rw [hl3, hl4] at h
      exact (sameLoad_eq h).symm
  · rename_i l' o' hav
    rw [hav]
    have := List.all_eq_true.1 hok _ hkj
    simp only [Bool.or_eq_true, Bool.and_eq_true] at this
    rcases this with ⟨h, hpu⟩ | h
    · have hkd := blt_iff.1 h
      have hsame : y.s = x.s := by
        obtain ⟨bb, _, hT1, hF1⟩ := evOp_spec h5
        cases bb with
        | false => rw [hF1 rfl, Cfg.put_s]
        | true =>
          obtain ⟨v, z, hev, rfl⟩ := hT1 rfl
          rw [Cfg.put_s]
          generalize hop : b.op = op at hkd hev hpu
          cases op <;> first | (exfalso; exact Nat.not_lt_zero _ hkd; done) | (exfalso; exact absurd hkd (Nat.not_lt_of_le (Nat.zero_le _)); done) | (exfalso; exact absurd hkd (Nat.lt_irrefl 1); done) | skip
          simp only [evIns, Option.map_eq_some_iff, Prod.mk.injEq] at hev
          obtain ⟨⟨r, s'⟩, hcall, _, rfl⟩ := hev
          exact se.pure (by simpa [Ins.kind] using hpu) hcall
      show loadFrom e.E y.l y.s (.ptr l' o') (cnt k.n) = loadFrom e.E x.l x.s (.ptr l' o') (cnt k.n)
      unfold loadFrom
      rw [hsame]
    · rw [hl3, hl4] at h
      exact (sameLoad_eq h).symm
  · rename_i hav
    rw [hav]
    rfl
  · rename_i hav
    rw [hav]
    rfl
  · cases hok
end Go.AI

/- Regions that draw their order: the region. -/
namespace Go.AI
variable {P : Program} {e : Env} {lof : Nat → Option Nat} {nt base : Nat} {ops : Array Oper} {U0 : Nat → Option (List AVal)}

theorem cDraw_spec {A B : List (Nat × List AVal)} {cs : List COp} {chk : List Chk} (h : cDraw P lof nt ops = some (.regd A B cs chk)) :
    cOps P lof true nt ops ops.toList = some cs ∧ preOf P lof ops.toList = some (A, B) ∧ chk = chksOf (masks (ops.toList.map edgesOf) []) (nums cs) ∧ edgesBack ops.toList = true ∧ pairsOk (masks (ops.toList.map edgesOf) []) (nums cs) = true ∧
    cs.all (fun o => o.op.heavy || o.op.light) = true ∧ (ops.toList.zip cs).all (fun (o, c) => sameOp o.op c.op) = true ∧ chk.all (chkStays (nums cs)) = true := by
  simp only [cDraw, Option.bind_eq_some_iff] at h
  obtain ⟨l, hl, ⟨a, b⟩, hab, h⟩ := h
  obtain ⟨hc, h⟩ := cond_none h
  simp only [Option.some.injEq, CC.regd.injEq] at h
  obtain ⟨rfl, rfl, rfl, rfl⟩ := h
  simp only [Bool.and_eq_true] at hc
  exact ⟨hl, hab, rfl, hc.1, hc.2.1, hc.2.2.1, hc.2.2.2.1, hc.2.2.2.2⟩

theorem drawn_of (se : SoundEnv P e) {A B : List (Nat × List AVal)} {cs : List COp} {chk : List Chk} (hc : cDraw P lof nt ops = some (.regd A B cs chk)) {c0 : Cfg} {s0 : ASt} (hh : c0.h = (preH s0 B).2)
    (hinj : ∀ d d' q, assoc c0.h d = some q → assoc c0.h d' = some q → d = d') (hex : ∀ d z, assoc B d = some z → ∃ q, assoc c0.h d = some q) {T : List Cfg} (hT : evTrace e cs c0 = some T) (hchk : chk.all (okChk e T (lastOr c0 T)) = true)
    (hlh : ∀ t j, lof t = some j → c0.l.has j = true) (hhas : ∀ t, t < nt → c0.f.has t = true) :
    Drawn P e lof nt ops cs (masks (ops.toList.map edgesOf) []) (fun i => (T[i]?).getD c0) ∧ PreOK P lof ops.toList A B ∧ (T[cs.length]?).getD c0 = lastOr c0 T ∧ (T[0]?).getD c0 = c0 := by
  obtain ⟨h1, h2, h3, h4, h5, h6, h7, h8⟩ := cDraw_spec hc
  obtain ⟨k1', k2⟩ := cOps_get _ _ h1
  have k1 : cs.length = ops.size := by rw [k1', Array.length_toList]
  obtain ⟨t1, t2, t3, t4⟩ := trace_ok e cs c0 T hT
  have K := pre_spec _ _ _ h2
  have hk : ∀ (i : Nat) co, cs[i]? = some co → co.op.heavy = true ∨ co.op.light = true := fun i co hi => by
    have := List.all_eq_true.1 h6 co (List.mem_of_getElem? hi)
    simpa using this
  have hlast : (T[cs.length]?).getD c0 = lastOr c0 T := by rw [t4 c0]; rfl
  have h0 : (T[0]?).getD c0 = c0 := by rw [t2]; rfl
  have hsame : ∀ (i : Nat) o co, ops[i]? = some o → cs[i]? = some co → sameOp o.op co.op = true := fun i o co hi hj => by
    have : (o, co) ∈ ops.toList.zip cs := List.mem_iff_getElem?.2 ⟨i, List.getElem?_zip_eq_some.2 ⟨by rw [Array.getElem?_toList]; exact hi, hj⟩⟩
    exact List.all_eq_true.1 h7 _ this
  have hpre : ∀ (i : Nat) o co, ops[i]? = some o → cs[i]? = some co → isPre co.op = true → ∃ t, o.op = .alloc t := fun i o co hi hj hp => by
    have := hsame i o co hi hj
    simp only [sameOp, Bool.and_eq_true, Bool.or_eq_true, Bool.not_eq_true', hp] at this
    have := this.1.resolve_left (by simp)
    cases hop : o.op <;> rw [hop] at this <;> first | exact ⟨_, rfl⟩ | cases this
  have hal : ∀ {i q z}, AL P ops cs i q z → ∃ (o : Oper) (t : TypeId) (d : Nat), ops.toList[i]? = some o ∧ o.op = .alloc t ∧ o.dst = some d ∧ lof d = some q := by
    rintro i q z ⟨o, co, t, ho, hco, hq, hop, _⟩
    obtain ⟨hins, _⟩ := cOp_op (k2 i o co (by rw [Array.getElem?_toList]; exact ho) hco)
    obtain ⟨z', d, _, hd, hcase⟩ := alloc_inv hins hop
    rcases hcase with ⟨q', e1, e2⟩ | ⟨e1, _⟩
    · rw [hq] at e1
      cases e1
      exact ⟨o, t, d, by rw [Array.getElem?_toList]; exact ho, hop, hd, e2⟩
    · rw [hq] at e1; cases e1
  have hhl : ∀ {i d : Nat} {co : COp}, (∃ (o : Oper) (t : TypeId), ops[i]? = some o ∧ cs[i]? = some co ∧ co.op = .halloced d ∧ o.op = .alloc t) → ∃ (o : Oper) (t : TypeId), ops.toList[i]? = some o ∧ o.op = .alloc t ∧ o.dst = some d ∧ lof d = none := by
    rintro i d co ⟨o, t, ho, hco, hq, hop⟩
    obtain ⟨hins, _⟩ := cOp_op (k2 i o co (by rw [Array.getElem?_toList]; exact ho) hco)
    obtain ⟨z', d', _, hd, hcase⟩ := alloc_inv hins hop
    rcases hcase with ⟨q', e1, e2⟩ | ⟨e1, e2⟩
    · rw [hq] at e1; cases e1
    · rw [hq] at e1
      cases e1
      exact ⟨o, t, by rw [Array.getElem?_toList]; exact ho, hop, hd, e2⟩
  have hof : ∀ (i : Nat) co, cs[i]? = some co → ∃ o, ops[i]? = some o := fun i co hi => ⟨_, Array.getElem?_eq_getElem (by have := (List.getElem?_eq_some_iff.1 hi).1; omega)⟩
  refine ⟨⟨k1, fun i o co hi hj => k2 i o co (by rw [Array.getElem?_toList]; exact hi) hj, fun i co hi => ?_, hk, fun i j a b hij hi hj => ?_, fun k i hw => ?_, fun i j q z z' hi hj => ?_, fun i j q z z' hi hj => ?_, fun i co d hi hd => ?_, hpre, fun i o co hi hj hp => ?_, fun i co hi hp => ?_,
    fun i j co b n g hi hl hw hj hb hw1 hw2 => chk_ok se t3 hk (by rw [← h3]; exact hchk) (by rw [← h3]; exact h8) hlast hi hl hj hb hw1 hw2, by simp only [h0]; exact hlh, by simp only [h0]; exact hhas⟩, K, hlast, h0⟩
  · obtain ⟨x, y, q1, q2, q3⟩ := t3 i co hi
    simp only [q1, q2, Option.getD_some]
    exact q3
  · have := List.all_eq_true.1 (List.all_eq_true.1 h5 (i, a) (nums_mem hi)) (j, b) (nums_mem hj)
    simp only [blt_iff.2 hij, Bool.not_true, Bool.false_or] at this
    exact this
  · refine waits_lt (fun k es hes e' he' => ?_) k i hw
    simp only [List.getElem?_map, Option.map_eq_some_iff] at hes
    obtain ⟨o, ho, rfl⟩ := hes
    have := List.all_eq_true.1 (List.all_eq_true.1 h4 (k, o) (nums_mem ho)) e' he'
    exact blt_iff.1 this
  · obtain ⟨o, t, d, a1, a2, a3, a4⟩ := hal hi
    obtain ⟨o', t', d', b1, b2, b3, b4⟩ := hal hj
    exact K.ua i j o o' t t' d d' q a1 b1 a2 b2 a3 b3 a4 b4
  · obtain ⟨o, co, t, d, ho, hco, hq, hqd, hop, _⟩ := hi
    obtain ⟨o', co', t', d', ho', hco', hq', hqd', hop', _⟩ := hj
    simp only [h0] at hqd hqd'
    have := hinj d d' q hqd hqd'
    subst this
    obtain ⟨o1, t1, a1, a2, a3, a4⟩ := hhl ⟨o, t, ho, hco, hq, hop⟩
    obtain ⟨o2, t2, b1, b2, b3, b4⟩ := hhl ⟨o', t', ho', hco', hq', hop'⟩
    exact K.ub i j o1 o2 t1 t2 d a1 b1 a2 b2 a3 b3 a4
  · obtain ⟨o, ho⟩ := hof i co hi
    obtain ⟨t, hop⟩ := hpre i o co ho hi (by rw [hd]; rfl)
    obtain ⟨o', t', a1, a2, a3, a4⟩ := hhl ⟨o, t, ho, hi, hd, hop⟩
    obtain ⟨_, d', z, b1, b2, b3⟩ := K.al i o' t' a1 a2
    rw [a3] at b1
    cases b1
    simp only [h0]
    rcases b3 with ⟨q, e1, _⟩ | ⟨_, e1⟩
    · rw [a4] at e1; cases e1
    · exact hex d z e1
  · have := hsame i o co hi hj
    simp only [sameOp, Bool.and_eq_true, Bool.or_eq_true, Bool.not_eq_true', hp] at this
    have := this.2.resolve_left (by simp)
    cases hop : o.op <;> rw [hop] at this <;> first | exact ⟨_, _, rfl⟩ | cases this
  · obtain ⟨o, ho⟩ := hof i co hi
    obtain ⟨t, hop⟩ := hpre i o co ho hi hp
    obtain ⟨hg, _⟩ := K.al i o t (by rw [Array.getElem?_toList]; exact ho) hop
    have hco := k2 i o co (by rw [Array.getElem?_toList]; exact ho) hi
    simp only [cOp, hg, Option.bind_some] at hco
    obtain ⟨_, hco⟩ := cond_none hco
    simp only [Option.map_eq_some_iff] at hco
    obtain ⟨_, _, rfl⟩ := hco
    rfl

/-- From the operations that have been listed to the end. -/
theorem any_draw {ro : Option Nat} (se : SoundEnv P e) {cs : List COp} {tr : Nat → Cfg} {G0 : Gh} {w0 : World} (D : Drawn P e lof nt ops cs (masks (ops.toList.map edgesOf) []) tr) (hback : edgesBack ops.toList = true) {Q : Exit → Act → World → Prop}
    (hq : ∀ (S : Nat → Prop) U pd m G a w, (∀ i, i < ops.size → S i) → Inv P e U0 nt base ops cs tr G0 w0 S U pd m G a w → Q .normal a w) :
    ∀ (fuel : Nat) (listed : Array Bool) U pd m G a w, listed.size = ops.size → (List.range ops.size).countP (fun i => !listed.getD i false) ≤ fuel → (∀ k j, listed.getD k false = true → waits (masks (ops.toList.map edgesOf) []) k j = true → listed.getD j false = true) →
      Inv P e U0 nt base ops cs tr G0 w0 (fun i => listed.getD i false = true) U pd m G a w → wpAnyIn (FW ro) 0 P .any ops Q fuel listed a w := by
  have hb : ∀ (k : Nat) es, (ops.toList.map edgesOf)[k]? = some es → ∀ e' ∈ es, e' < k := by
    intro k es hes e' he'
    simp only [List.getElem?_map, Option.map_eq_some_iff] at hes
    obtain ⟨o, ho, rfl⟩ := hes
    exact blt_iff.1 (List.all_eq_true.1 (List.all_eq_true.1 hback (k, o) (nums_mem ho)) e' he')
  -- what may come next has all that it waits for
  have hready : ∀ (listed : Array Bool) i, listed.size = ops.size → (i ∈ Region.ready .any ops listed ↔ ∃ o, ops[i]? = some o ∧ listed.getD i false = false ∧ ∀ e' ∈ edgesOf o, listed.getD e' false = true) := by
    intro listed i hsz
    unfold Region.ready
    rw [List.mem_filter, List.mem_range]
    constructor
    · rintro ⟨hi, h⟩
      have hoi : ops[i]? = some (ops[i]'hi) := Array.getElem?_eq_getElem hi
      simp only [Bool.and_eq_true, Bool.not_eq_true', hoi, Option.map_some, Option.getD_some, Array.all_eq_true_iff_forall_mem] at h
      refine ⟨ops[i], hoi, ?_, fun e' he' => ?_⟩
      · rw [Array.getD_eq_getD_getElem?, Array.getElem?_eq_getElem (by omega)] at h ⊢
        exact h.1
      · unfold edgesOf at he'
        obtain ⟨x, hx, rfl⟩ := List.mem_map.1 he'
        obtain ⟨h1, h2⟩ := List.mem_filter.1 hx
        have := h.2 x (by simpa using h1)
        simp only [Bool.or_eq_true, Bool.not_eq_true'] at this
        exact this.resolve_left (by rw [h2]; simp)
    · rintro ⟨o, ho, hl, he⟩
      have hi : i < ops.size := (Array.getElem?_eq_some_iff.1 ho).1
      refine ⟨hi, ?_⟩
      simp only [Bool.and_eq_true, Bool.not_eq_true', ho, Option.map_some, Option.getD_some, Array.all_eq_true_iff_forall_mem]
      refine ⟨?_, fun x hx => ?_⟩
      · rw [Array.getD_eq_getD_getElem?, Array.getElem?_eq_getElem (by omega)] at hl ⊢
        exact hl
      · cases hbx : Region.binds .any x with
        | false => rfl
        | true =>
          simp only [Bool.not_true, Bool.false_or]
          exact he x.on (by unfold edgesOf; exact List.mem_map.2 ⟨x, List.mem_filter.2 ⟨by simpa using hx, hbx⟩, rfl⟩)
  -- nothing is ready: all are listed
  have hdone : ∀ (listed : Array Bool), listed.size = ops.size → Region.ready .any ops listed = [] → ∀ i, i < ops.size → listed.getD i false = true := by
    intro listed hsz hr i
    induction i using Nat.strongRecOn with
    | _ i ih =>
      intro hi
      cases hl : listed.getD i false with
      | true => rfl
      | false =>
        have hoi : ops[i]? = some (ops[i]'hi) := Array.getElem?_eq_getElem hi
        have : i ∈ Region.ready .any ops listed := (hready listed i hsz).2 ⟨_, hoi, hl, fun e' he' => by
          have := hb i (edgesOf ops[i]) (by simp [hoi]) e' he'
          exact ih e' this (by omega)⟩
        rw [hr] at this
        cases this
  intro fuel
  induction fuel with
  | zero =>
    intro listed U pd m G a w hsz hcnt hcl I
    have hall : ∀ i, i < ops.size → listed.getD i false = true := by
      intro i hi
      have := List.countP_eq_zero.1 (Nat.le_zero.1 hcnt) i (List.mem_range.2 hi)
      simpa using this
    refine ⟨?_, hq _ U pd m G a w hall I⟩
    apply List.eq_nil_iff_forall_not_mem.2
    intro i hi
    obtain ⟨o, ho, hl, _⟩ := (hready listed i hsz).1 hi
    rw [hall i (Array.getElem?_eq_some_iff.1 ho).1] at hl
    cases hl
  | succ fuel ih =>
    intro listed U pd m G a w hsz hcnt hcl I
    refine ⟨fun hr => hq _ U pd m G a w (hdone listed hsz hr) I, fun i hi => ?_⟩
    obtain ⟨o, ho, hl, he⟩ := (hready listed i hsz).1 hi
    have hio : i < ops.size := (Array.getElem?_eq_some_iff.1 ho).1
    have hlen := D.len
    have hci : cs[i]? = some (cs[i]'(by omega)) := List.getElem?_eq_getElem (by omega)
    have hoi : (ops.toList.map edgesOf)[i]? = some (edgesOf o) := by simp [ho]
    have hrd : ∀ k, waits (masks (ops.toList.map edgesOf) []) i k = true → listed.getD k false = true := by
      intro k hw
      obtain ⟨e', he', h⟩ := (waits_iff hoi (hb i _ hoi) k).1 hw
      rcases h with rfl | h
      · exact he e' he'
      · exact hcl e' k (he e' he') h
    unfold wpOpIn
    simp only [ho]
    have hget : ∀ j, (listed.setIfInBounds i true).getD j false = if j = i then true else listed.getD j false := by
      intro j
      rw [Array.getD_eq_getD_getElem?, Array.getD_eq_getD_getElem?, Array.getElem?_setIfInBounds]
      by_cases e1 : i = j
      · subst e1; simp [hsz, hio]
      · rw [if_neg e1, if_neg (fun e2 => e1 e2.symm)]
    refine op_draw D I se ho hci (by simp [hl]) hcl hrd fun U' pd' m' G' a' w' I' => ?_
    refine ih (listed.setIfInBounds i true) U' pd' m' G' a' w' (by simpa using hsz) ?_ (fun k j hk hw => ?_) ?_
    · have hlt : (List.range ops.size).countP (fun j => !(listed.setIfInBounds i true).getD j false) < (List.range ops.size).countP (fun j => !listed.getD j false) := by
        have key : ∀ (l : List Nat), i ∈ l → l.countP (fun j => !(listed.setIfInBounds i true).getD j false) < l.countP (fun j => !listed.getD j false) := by
          intro l
          induction l with
          | nil => intro h; cases h
          | cons x l ihl =>
            intro h
            have hle : ∀ l : List Nat, l.countP (fun j => !(listed.setIfInBounds i true).getD j false) ≤ l.countP (fun j => !listed.getD j false) := fun l =>
              List.countP_mono_left fun j _ h => by
                rw [hget] at h
                split at h
                · cases h
                · exact h
            rw [List.countP_cons, List.countP_cons]
            by_cases hx : x = i
            · subst hx
              rw [hget, if_pos rfl, hl]
              have := hle l
              simp only [Bool.not_true, Bool.false_eq_true, if_false, Bool.not_false, if_true]
              omega
            · have := ihl ((List.mem_cons.1 h).resolve_left (fun e => hx e.symm))
              rw [hget, if_neg hx]
              omega
        exact key _ (List.mem_range.2 hio)
      omega
    · rw [hget] at hk ⊢
      split
      · rfl
      · split at hk
        · rename_i e1
          subst e1
          exact hrd j hw
        · exact hcl k j hk hw
    · have : (fun j => (listed.setIfInBounds i true).getD j false = true) = (fun j => listed.getD j false = true ∨ j = i) := by
        funext j
        rw [hget]
        by_cases e1 : j = i
        · simp [e1]
        · simp [e1]
      rw [this]
      exact I'
end Go.AI

/- Regions that draw their order: what they come to. -/
namespace Go.AI
variable {P : Program} {e : Env} {lof : Nat → Option Nat} {nt base : Nat} {ops : Array Oper} {U0 : Nat → Option (List AVal)} {G : Gh} {w : World} {a : Act}

theorem reg_draw {ro : Option Nat} (se : SoundEnv P e) (hm : P.follows .mixedOrders = true) {id : Nat} {Q : Exit → Act → World → Prop} {cc : CC} {c c' : Cfg} {ex : EX} {n : Nat} (hc : cDraw P lof nt ops = some cc) (cr : CR P e.E U0 lof nt base c G w a) (hev : evCC e n cc c = some (ex, c'))
    (hq : ∀ G' a' w', Ext G w G' w' → CR P e.E U0 lof nt base c' G' w' a' → c'.rd = c.rd → Q .normal a' w') : ex = .normal ∧ (Code.region id ops true).wpIn (FW ro) 0 P Q a w := by
  obtain ⟨A, B, cs, chk, rfl⟩ : ∃ A B cs chk, cc = .regd A B cs chk := by
    simp only [cDraw, Option.bind_eq_some_iff] at hc
    obtain ⟨l, hl, ⟨x, y⟩, hab, h⟩ := hc
    obtain ⟨_, h⟩ := cond_none h
    simp only [Option.some.injEq] at h
    exact ⟨_, _, _, _, h.symm⟩
  have hspec := cDraw_spec hc
  have K0 := pre_spec _ _ _ hspec.2.1
  simp only [evCC, Option.bind_eq_some_iff] at hev
  obtain ⟨T, hT, hev⟩ := hev
  obtain ⟨hchk, hev⟩ := cond_none hev
  simp only [Option.some.injEq, Prod.mk.injEq] at hev
  obtain ⟨rfl, rfl⟩ := hev
  refine ⟨rfl, wpIn_region_any hm ?_⟩
  -- what is laid ahead
  have hkd : Keep w { w with drawn := w.drawn + 1 } := ⟨Nat.le_refl _, rfl, rfl, rfl, fun _ _ => rfl, fun _ => rfl⟩
  have mr1 := cr.mr.keep hkd
  obtain ⟨mr2, hhas2⟩ := mr1.preL A K0.na (fun q z hqz => by
    obtain ⟨_, _, _, d, _, _, _, h4, _⟩ := K0.a q z hqz
    exact ⟨rfl, cr.lh d q h4⟩)
  obtain ⟨U', mr3, hU, hex, hlo, hinj⟩ := mr2.preH B K0.nb
  generalize hc0 : ({ c with l := preL c.l A, h := (preH c.s B).2, s := (preH c.s B).1 } : Cfg) = c0 at hT
  have e0l : c0.l = preL c.l A := by rw [← hc0]
  have e0s : c0.s = (preH c.s B).1 := by rw [← hc0]
  have e0h : c0.h = (preH c.s B).2 := by rw [← hc0]
  have e0f : c0.f = c.f := by rw [← hc0]
  have e0rd : c0.rd = c.rd := by rw [← hc0]
  obtain ⟨t1, t2, t3, t4⟩ := trace_ok e cs c0 T hT
  have hlo2 : lastOr c T = lastOr c0 T := by
    have := (t4 c).symm.trans (t4 c0)
    injection this
  rw [hlo2] at hchk hq
  obtain ⟨D, K, hlast, h0⟩ := drawn_of se hc (c0 := c0) (s0 := c.s) e0h (by rw [e0h]; exact hinj) (by rw [e0h]; exact hex) hT hchk (fun t j hj => by rw [e0l, hhas2]; exact cr.lh t j hj) (fun t ht => by rw [e0f]; exact cr.fr.2 t (by rw [cr.sz]; exact ht))
  have h0' : (fun i => (T[i]?).getD c0) 0 = c0 := h0
  have k2 := (cOps_get _ _ hspec.1).2
  have hlen := D.len
  -- the start
  have I0 : Inv P e U0 nt base ops cs (fun i => (T[i]?).getD c0) G w (fun i => (Array.replicate ops.size false).getD i false = true) U' (fun q => match assoc A q with | some z => some z | none => none) 0 G a { w with drawn := w.drawn + 1 } := by
    have hS : ∀ i, ¬ ((Array.replicate ops.size false).getD i false = true) := by
      intro i
      rw [Array.getD_eq_getD_getElem?, Array.getElem?_replicate]
      split <;> simp
    refine ⟨hkd.ext G, by simp only [h0]; rw [e0l, e0s]; exact mr3, Nat.zero_le _, fun j b hj hb => ⟨fun h => absurd h (hS j), fun h => absurd h (Nat.not_lt_zero j)⟩, fun t => ⟨c.f.get undefA t, (cr.fr.1 t).ext (hkd.ext G), .inr ⟨fun j b hj => absurd hj (hS j), by simp only [h0]; rw [e0f]⟩⟩, cr.sz, cr.df.ext (hkd.ext G), fun q z => ?_, fun q z => ?_, fun d q hd => ?_⟩
    · constructor
      · intro h
        have hA : assoc A q = some z := by
          cases e : assoc A q with
          | none => rw [e] at h; cases h
          | some z' => rw [e] at h; exact h
        obtain ⟨i, o, t, d, a1, a2, a3, a4, a5⟩ := K.a q z hA
        have hi : i < cs.length := by
          have := (List.getElem?_eq_some_iff.1 a1).1
          rw [Array.length_toList] at this
          omega
        have hci : cs[i]? = some (cs[i]'hi) := List.getElem?_eq_getElem hi
        obtain ⟨hins, _⟩ := cOp_op (k2 i o _ a1 hci)
        obtain ⟨z', d', _, hd, hcase⟩ := alloc_inv hins a2
        rw [a3] at hd
        cases hd
        refine ⟨i, hS i, o, _, t, by rw [← Array.getElem?_toList]; exact a1, hci, ?_, a2, a5⟩
        rcases hcase with ⟨q', e1, e2⟩ | ⟨_, e2⟩
        · rw [a4] at e2; cases e2; exact e1
        · rw [a4] at e2; cases e2
      · rintro ⟨i, _, o, co, t, ho, hco, hq', hop, hz⟩
        obtain ⟨_, d, z', b1, b2, b3⟩ := K.al i o t (by rw [Array.getElem?_toList]; exact ho) hop
        obtain ⟨hins, _⟩ := cOp_op (k2 i o co (by rw [Array.getElem?_toList]; exact ho) hco)
        obtain ⟨z2, d', c1, hd, hcase⟩ := alloc_inv hins hop
        rw [b1] at hd
        cases hd
        rw [hz] at b2
        cases b2
        rcases hcase with ⟨q', e1, e2⟩ | ⟨e1, _⟩
        · rw [hq'] at e1
          cases e1
          rcases b3 with ⟨q2, e3, e4⟩ | ⟨e3, _⟩
          · rw [e2] at e3; cases e3; rw [e4]
          · rw [e2] at e3; cases e3
        · rw [hq'] at e1; cases e1
    · rw [hU]
      constructor
      · rintro (h | ⟨d, h1, h2⟩)
        · exact .inl h
        · refine .inr ?_
          obtain ⟨i, o, t, a1, a2, a3, a4, a5⟩ := K.b d z h2
          have hi : i < cs.length := by
            have := (List.getElem?_eq_some_iff.1 a1).1
            rw [Array.length_toList] at this
            omega
          have hci : cs[i]? = some (cs[i]'hi) := List.getElem?_eq_getElem hi
          obtain ⟨hins, _⟩ := cOp_op (k2 i o _ a1 hci)
          obtain ⟨z', d', _, hd, hcase⟩ := alloc_inv hins a2
          rw [a3] at hd
          cases hd
          refine ⟨i, hS i, o, _, t, d, by rw [← Array.getElem?_toList]; exact a1, hci, ?_, by simp only [h0]; rw [e0h]; exact h1, a2, a5⟩
          rcases hcase with ⟨q', e1, e2⟩ | ⟨e1, _⟩
          · rw [a4] at e2; cases e2
          · exact e1
      · rintro (h | ⟨i, _, o, co, t, d, ho, hco, hq', hqd, hop, hz⟩)
        · exact .inl h
        obtain ⟨_, d2, z', b1, b2, b3⟩ := K.al i o t (by rw [Array.getElem?_toList]; exact ho) hop
        obtain ⟨hins, _⟩ := cOp_op (k2 i o co (by rw [Array.getElem?_toList]; exact ho) hco)
        obtain ⟨z2, d', c1, hd, hcase⟩ := alloc_inv hins hop
        rw [b1] at hd
        cases hd
        rw [hz] at b2
        cases b2
        simp only [h0] at hqd
        rw [e0h] at hqd
        rcases hcase with ⟨q', e1, e2⟩ | ⟨e1, e2⟩
        · rw [hq'] at e1; cases e1
        · rw [hq'] at e1
          cases e1
          rcases b3 with ⟨q2, e3, _⟩ | ⟨_, e3⟩
          · rw [e2] at e3; cases e3
          · exact .inr ⟨d, hqd, e3⟩
    · simp only [h0] at hd
      rw [e0h] at hd
      cases e1 : U0 q with
      | none => rfl
      | some z =>
        have h1 := (mr2.heap _ _ (mr2.un q z e1).2.1).1
        have h2 := hlo d q hd
        omega
  refine any_draw (ro := ro) (base := base) (G0 := G) (w0 := w) se D hspec.2.2.2.1 (fun S U pd m G' a' w' hall I => ?_) ops.size _ U' _ 0 G a _ (by simp) ?_ (fun k j hk _ => ?_) I0
  · -- the end
    have hnoS : ∀ i, ¬ S i → cs[i]? = none := fun i hi => by
      cases e1 : cs[i]? with
      | none => rfl
      | some b =>
        have := (List.getElem?_eq_some_iff.1 e1).1
        exact absurd (hall i (by omega)) hi
    have hpd0 : pd = fun _ => none := by
      funext q
      cases e1 : pd q with
      | none => rfl
      | some z =>
        obtain ⟨i, h1, o, co, t, h2, h3, _⟩ := (I.pd_ q z).1 e1
        rw [hnoS i h1] at h3
        cases h3
    have hu0 : U = U0 := by
      funext q
      cases e1 : U q with
      | none =>
        cases e2 : U0 q with
        | none => rfl
        | some z => rw [(I.u_ q z).2 (.inl e2)] at e1; cases e1
      | some z =>
        rcases (I.u_ q z).1 e1 with h | ⟨i, h1, o, co, t, d, h2, h3, _⟩
        · exact h.symm
        · rw [hnoS i h1] at h3
          cases h3
    subst hpd0; subst hu0
    obtain ⟨hl, hs⟩ := D.mem I.mle (Nat.le_refl _) fun j b h1 h2 hj => by
      cases hb : b.op.heavy with
      | false => rfl
      | true =>
        have := (I.heavy j b hj hb).1 (hall j (by omega))
        omega
    simp only [hlast] at hl hs
    have hlike := D.like cs.length (Nat.le_refl _)
    simp only [hlast, h0] at hlike
    refine hq G' a' w' I.ext ⟨⟨fun t => ?_, fun t ht => ?_⟩, I.sz, by rw [hl, hs]; exact I.mr, fun t j hj => by rw [hlike.has, e0l, hhas2]; exact cr.lh t j hj, I.df, Nat.le_trans cr.bs I.ext.size⟩ (hlike.rd.trans e0rd)
    · obtain ⟨v, hv, hcase⟩ := I.tmp t
      rcases hcase with ⟨i, co, hSi, hi, hd, rfl, hlst⟩ | ⟨hno, rfl⟩
      · have hil := (List.getElem?_eq_some_iff.1 hi).1
        have := D.frame (t := t) (i := i + 1) (k := cs.length) (by omega) (Nat.le_refl _) fun j b h1 h2 hj => hlst j b (hall j (by omega)) (by omega) hj
        simp only [hlast] at this
        rw [this]
        exact hv
      · have := D.frame (t := t) (i := 0) (k := cs.length) (by omega) (Nat.le_refl _) fun j b h1 h2 hj => hno j b (hall j (by omega)) hj
        simp only [hlast] at this
        rw [this]
        exact hv
    · have := D.has cs.length (Nat.le_refl _) t (by rw [← I.sz]; exact ht)
      simp only [hlast] at this
      exact this
  · exact Nat.le_trans List.countP_le_length (by simp)
  · rw [Array.getD_eq_getD_getElem?, Array.getElem?_replicate] at hk
    split at hk <;> simp at hk
end Go.AI

/- Code. -/
namespace Go.AI
variable {P : Program} {e : Env} {lof : Nat → Option Nat} {nt base : Nat} {U0 : Nat → Option (List AVal)}

def toExit : EX → Exit
  | .normal => .normal
  | .exit i => .exit i
  | .ret => .ret
def RoR (G : Gh) : Option Nat → Option Nat → Prop
  | none, none => True
  | some b, some k => G.bOf k = some b
  | _, _ => False
theorem RoR.ext {G G' : Gh} {w w' : World} (x : Ext G w G' w') {ro rd : Option Nat} (h : RoR G ro rd) : RoR G' ro rd := by
  cases ro <;> cases rd <;> first | exact h | exact x.bOf _ _ h
theorem loopN_succ (k : Nat) (b : Cfg → Option (EX × Cfg)) (c : Cfg) : loopN (k + 1) b c = (b c).bind fun r => match r with
    | (.normal, c) => loopN k b c
    | r => some r := rfl

theorem far_ok {G : Gh} {w : World} {c : AVal} {v : Value} (h : VR G w c v) : VR G w (far c) v := by
  unfold far
  cases away c with
  | true => exact h
  | false => exact .junk v
theorem far_away (c : AVal) : away (far c) = true ∨ far c = .junk := by
  unfold far
  cases e : away c with
  | true => exact .inl (by simpa using e)
  | false => exact .inr rfl
theorem far_frame (f : Tr AVal) (t : Nat) : (f.map far).get undefA t = far (f.get undefA t) := by
  have := Tr.get_map far undefA f t
  have e : far undefA = undefA := rfl
  rw [e] at this
  exact this
theorem map_loc (l : Tr (Nat × List AVal)) (i : Nat) : (l.map fun _ => ((0, []) : Nat × List AVal)).get (0, []) i = (0, []) := by
  have := Tr.get_map (fun _ : Nat × List AVal => ((0, []) : Nat × List AVal)) (0, []) l i
  exact this

/-- The record of a range over a function, and the block for what rounds defer. -/
theorem enter_ok {ro : Option Nat} {c : Cfg} {G : Gh} {w : World} {a : Act} (cr : CR P e.E U0 lof nt base c G w a) (hro : RoR G ro c.rd) (hin : inLoop c = true) {ps : Array Tmp} {assign body : Code} {aa bb : CC} (ha : cCode P lof nt assign = some aa) (hb : cCode P lof nt body = some bb)
    (hps : ∀ p ∈ ps.toList, p < nt) (fn : FuncId) : ∃ l mark w1 G1, (Instr.enterLoop fn a.tmps ps assign body ro).run P w = .ok (l, mark) w1 ∧ Ext G w G1 w1 ∧ G1.bOf c.s.next = some l ∧
      CR P e.E U0 lof nt base { c with s := newObj c.s (.loop 0 none (c.f.map far) (c.l.map fun _ => (0, [])) ps.toList aa bb) } G1 w1 { a with defers := mark ++ a.defers } := by
  -- the second part: the record itself
  have second : ∀ (d : Nat) (mark : List Deferred) (G0 : Gh) (w0 : World), Ext G w G0 w0 → MR P e.E U0 (fun _ => none) c.l c.s G0 w0 → Marks base G0 w0 (mark ++ a.defers) →
      ∃ G1, Ext G w G1 (w0.alloc (.loop { state := .ready, pending := none, fn := fn, tmps := a.tmps, params := ps, assign := assign, body := body, defers := d })) ∧ G1.bOf c.s.next = some w0.heap.size ∧
        CR P e.E U0 lof nt base { c with s := newObj c.s (.loop 0 none (c.f.map far) (c.l.map fun _ => (0, [])) ps.toList aa bb) } G1 (w0.alloc (.loop { state := .ready, pending := none, fn := fn, tmps := a.tmps, params := ps, assign := assign, body := body, defers := d })) { a with defers := mark ++ a.defers } := by
    intro d mark G0 w0 x0 mr0 hm
    have x1 := mr0.ext_addH (Keep.alloc w0 (.loop { state := .ready, pending := none, fn := fn, tmps := a.tmps, params := ps, assign := assign, body := body, defers := d })) (b := w0.heap.size) (q := c.s.next) (Nat.le_refl _) mr0.bOf_next mr0.lo_
    have x := x0.trans x1
    refine ⟨_, x, by simp [Gh.addH, upd_eq], ⟨cr.fr.ext x, cr.sz, ?_, cr.lh, hm.ext x1, Nat.le_trans cr.bs x.size⟩⟩
    refine mr0.addH (Keep.alloc w0 _) (Nat.le_refl _) (alloc_lt w0 _) (o := .loop 0 none (c.f.map far) (c.l.map fun _ => (0, [])) ps.toList aa bb) ⟨_, heap_alloc_new w0 _, trivial, trivial, ⟨fun t => ?_, fun t ht => ?_⟩, fun t => ?_, rfl, fun p hp => ?_, fun i => map_loc _ _, lof, ?_, ?_, fun t i hi => ?_⟩
    · rw [far_frame]
      exact far_ok ((cr.fr.1 t).ext x)
    · rw [Tr.has_map]
      exact cr.fr.2 t ht
    · rw [far_frame]
      exact far_away _
    · show p < a.tmps.size
      rw [cr.sz]
      exact hps p hp
    · rw [← cr.sz] at ha; exact ha
    · rw [← cr.sz] at hb; exact hb
    · rw [Tr.has_map]; exact cr.lh t i hi
  cases ro with
  | none =>
    -- the block for deferred calls
    let G0 : Gh := { G with own := upd G.own w.heap.size .misc }
    have hf := cr.mr.free (Nat.le_refl w.heap.size)
    have k0 := Keep.alloc w (.deferred (some []))
    have x0 : Ext G w G0 (w.alloc (.deferred (some []))) := Ext.new k0 (Nat.le_refl _) (fun y hy => upd_ne _ _ _ hy) hf (fun _ _ h => h) (fun _ _ _ h => h) (Nat.le_refl _) rfl (fun _ _ => rfl) (fun t n sz h => by simp [G0, upd_eq] at h)
    have hne : ∀ y r, G.own y = r → r ≠ .free → y ≠ w.heap.size := fun y r h1 h2 e => h2 (by rw [← h1, e, hf])
    have st : Step G w G0 (w.alloc (.deferred (some []))) (fun y => y = w.heap.size) := ⟨x0, fun y hy hn => ⟨k0.same y hy, upd_ne _ _ _ hn⟩⟩
    have h := cr.mr
    have mr0 : MR P e.E U0 (fun _ => none) c.l c.s G0 (w.alloc (.deferred (some []))) := by
      refine ⟨fun y hy => ?_, h.bOf, h.lo_, h.un, h.pdz, h.nt, h.loc.step st (fun y q r ho => hne y _ ho (by simp)), h.lam, h.heap.step st (fun y q ho => hne y _ ho (by simp)) (fun _ _ _ h => h), h.ro.step st (fun y q ho => hne y _ ho (by simp)),
        h.tok.step (fun y t n sz ho => by simp only [G0]; rw [upd_ne _ _ _ (hne y _ ho (by simp))]; exact ho) (fun y t n sz ho => ?_) (fun y _ _ _ ho => k0.same y (h.own y (by rw [ho]; simp)))⟩
      · by_cases e' : y = w.heap.size
        · subst e'; simp
        · simp only [G0] at hy
          rw [upd_ne _ _ _ e'] at hy
          exact Nat.lt_of_lt_of_le (h.own y hy) k0.size
      · have hy : y ≠ w.heap.size := fun e' => by subst e'; simp [G0, upd_eq] at ho
        simp only [G0] at ho
        rw [upd_ne _ _ _ hy] at ho
        exact ho
    have hold : ∀ (ds : List Deferred), Marks base G w ds → ∀ d' ∈ ds, d'.target ≠ .collected w.heap.size := by
      intro ds
      induction ds with
      | nil => intro _ d' hd'; cases hd'
      | cons d ds ih =>
        rintro ⟨⟨r, q1, q2, q3, q4, q5⟩, q6⟩ d' hd'
        rcases List.mem_cons.1 hd' with rfl | hd'
        · rw [q1]
          intro e'
          injection e' with e'
          have := (Array.getElem?_eq_some_iff.1 q4).1
          omega
        · exact ih q6 d' hd'
    obtain ⟨G1, x1, hb1, cr1⟩ := second w.heap.size [{ target := .collected w.heap.size, args := #[] }] G0 (w.alloc (.deferred (some []))) x0 mr0
      ⟨⟨w.heap.size, rfl, cr.bs, upd_eq _ _ _, heap_alloc_new w _, hold a.defers cr.df⟩, cr.df.ext x0⟩
    refine ⟨_, _, _, G1, ?_, x1, hb1, cr1⟩
    simp [Instr.enterLoop]
  | some lr =>
    obtain ⟨k, hrd, hbk⟩ : ∃ k, c.rd = some k ∧ G.bOf k = some lr := by
      cases hr : c.rd with
      | none => rw [hr] at hro; exact hro.elim
      | some k => rw [hr] at hro; exact ⟨k, rfl, hro⟩
    have hloop : ∃ r, w.heap[lr]? = some (.loop r) := by
      unfold inLoop at hin
      rw [hrd] at hin
      simp only at hin
      split at hin <;> try (cases hin; done)
      rename_i hk
      rcases (cr.mr.heap k _ hk).2 with e' | ⟨b, h1, h2, r, h3, _⟩
      · rw [hbk] at e'; cases e'
      · rw [hbk] at h1; cases h1; exact ⟨r, h3⟩
    obtain ⟨r, hr⟩ := hloop
    obtain ⟨G1, x1, hb1, cr1⟩ := second r.defers [] G w (Ext.refl G w) cr.mr cr.df
    refine ⟨_, _, _, G1, ?_, x1, hb1, cr1⟩
    simp [Instr.enterLoop, Instr.getLoop, getObj, hr]
    simp [Sem.run, hr]
end Go.AI

/- Code: all of it. -/
namespace Go.AI
variable {P : Program} {e : Env} {lof : Nat → Option Nat} {nt base : Nat} {U0 : Nat → Option (List AVal)}

theorem ofValue_run (u : Value) (vs : Array Value) (w : World) (f : Fn) (first cap : Array Value) (h : u = .func f first cap) : (Deferred.ofValue u vs).run P w = .ok { target := .fn f cap, args := first ++ vs } w := by subst h; rfl

theorem stR_busy : ∀ {st : Nat}, stR st .busy → st = 1
  | 0, h => h.elim
  | 1, _ => rfl
  | 2, h => h.elim
  | _ + 3, h => h.elim
theorem loop_end {G : Gh} {w : World} {c : Cfg} {a : Act} {l k : Nat} {st : Nat} {pend : Option CC} {f : Tr AVal} {lo : Tr (Nat × List AVal)} {ps : List Nat} {x y : CC} (cr : CR P e.E U0 lof nt base c G w a) (hb : G.bOf k = some l) (hk : assoc c.s.heap k = some (.loop st pend f lo ps x y)) (hst : st ≠ 1) {hp : Heap} (hset : assocSet c.s.heap k .gone = some hp) :
    ∃ jump w', (Instr.endLoop l).run P w = .ok jump w' ∧ pendR pend jump ∧ Ext G w G w' ∧ CR P e.E U0 lof nt base { c with s := { c.s with heap := hp } } G w' a := by
  rcases (cr.mr.heap k _ hk).2 with e' | ⟨b, h1, h2, r, h3, h4⟩
  · rw [hb] at e'; cases e'
  rw [hb] at h1
  cases h1
  have hne : r.state ≠ .busy := fun hs => hst (stR_busy (by rw [← hs]; exact h4.st_))
  have sw := Swap.setObj h3 (.loop { r with state := .exhausted })
  have x := Ext.chg (G := G) sw (by rw [h2]; exact fun e => e) (by rw [h2]; intros; simp)
  obtain ⟨_, hm⟩ := cr.mr.chgH sw hb h2 hset (ob := .gone) ⟨_, (MapKept.heap_set h3).1⟩
  refine ⟨r.pending, _, ?_, h4.pend_, x, ⟨cr.fr.ext x, cr.sz, hm, cr.lh, cr.df.ext x, Nat.le_trans cr.bs x.size⟩⟩
  simp [Instr.endLoop, Instr.getLoop, getObj, setObj, Sem.run, h3, hne]

theorem orBad_ok {x : Option CC} {cc : CC} (h : orBad x = some cc) : x = some cc ∨ cc = .bad := by
  cases x with
  | none =>
    simp only [orBad, Option.some.injEq] at h
    exact .inr h.symm
  | some y => exact .inl h
theorem code_ok (se : SoundEnv P e) (hm : P.follows .mixedOrders = true) {ro : Option Nat} (n : Nat) : ∀ (code : Code) {cc : CC}, cCode P lof nt code = some cc → ∀ {c c' : Cfg} {ex : EX} {G : Gh} {w : World} {a : Act} {Q : Exit → Act → World → Prop},
    CR P e.E U0 lof nt base c G w a → RoR G ro c.rd → evCC e n cc c = some (ex, c') → (∀ G' a' w', Ext G w G' w' → CR P e.E U0 lof nt base c' G' w' a' → c'.rd = c.rd → Q (toExit ex) a' w') → code.wpIn (FW ro) 0 P Q a w
  | .skip, cc, hc, c, c', ex, G, w, a, Q, cr, hro, hev, hq => by
    simp only [cCode, Option.some.injEq] at hc
    subst hc
    simp only [evCC, Option.some.injEq, Prod.mk.injEq] at hev
    obtain ⟨rfl, rfl⟩ := hev
    exact wpIn_skip (hq G a w (Ext.refl G w) cr rfl)
  | .region id ops false, cc, hc, c, c', ex, G, w, a, Q, cr, hro, hev, hq => by
    simp only [cCode] at hc
    rcases orBad_ok hc with hc | rfl
    · simp only [Option.map_eq_some_iff] at hc
      obtain ⟨cs, hcs, rfl⟩ := hc
      simp only [evCC, Option.map_eq_some_iff, Prod.mk.injEq] at hev
      obtain ⟨c1, hev, rfl, rfl⟩ := hev
      exact reg_seq se hcs cr hev hq
    · simp only [evCC, reduceCtorEq] at hev
  | .region id ops true, cc, hc, c, c', ex, G, w, a, Q, cr, hro, hev, hq => by
    simp only [cCode] at hc
    rcases orBad_ok hc with hc | rfl
    · have he : ex = .normal := (reg_draw (ro := ro) (id := id) (Q := fun _ _ _ => True) se hm hc cr hev (fun _ _ _ _ _ _ => trivial)).1
      subst he
      exact (reg_draw se hm hc cr hev hq).2
    · simp only [evCC, reduceCtorEq] at hev
  | .seq x y, cc, hc, c, c', ex, G, w, a, Q, cr, hro, hev, hq => by
    simp only [cCode, Option.bind_eq_some_iff, Option.map_eq_some_iff] at hc
    obtain ⟨cx, hx, cy, hy, rfl⟩ := hc
    simp only [evCC, Option.bind_eq_some_iff] at hev
    obtain ⟨⟨ex1, c1⟩, h1, h2⟩ := hev
    refine wpIn_seq (code_ok se hm n x hx cr hro h1 fun G1 a1 w1 x1 cr1 hrd1 => ?_)
    cases ex1 with
    | normal =>
      exact code_ok se hm n y hy cr1 (by rw [hrd1]; exact hro.ext x1) h2 fun G2 a2 w2 x2 cr2 hrd2 => hq G2 a2 w2 (x1.trans x2) cr2 (hrd2.trans hrd1)
    | exit i =>
      simp only [Option.some.injEq, Prod.mk.injEq] at h2
      obtain ⟨rfl, rfl⟩ := h2
      exact hq G1 a1 w1 x1 cr1 hrd1
    | ret =>
      simp only [Option.some.injEq, Prod.mk.injEq] at h2
      obtain ⟨rfl, rfl⟩ := h2
      exact hq G1 a1 w1 x1 cr1 hrd1
  | .cond x p q, cc, hc, c, c', ex, G, w, a, Q, cr, hro, hev, hq => by
    simp only [cCode, Option.bind_eq_some_iff, Option.map_eq_some_iff] at hc
    obtain ⟨g, hg, cp, hp, cq, hcq, rfl⟩ := hc
    have hv := arg_ok hg (cr.fr.reads (a := a) g.tmps)
    simp only [evCC] at hev
    split at hev
    · rename_i hx
      rw [hx] at hv
      exact wpIn_cond_true hv.bool_inv (code_ok se hm n p hp cr hro hev hq)
    · rename_i hx
      rw [hx] at hv
      exact wpIn_cond_false hv.bool_inv (code_ok se hm n q hcq cr hro hev hq)
    · cases hev
  | .block id x, cc, hc, c, c', ex, G, w, a, Q, cr, hro, hev, hq => by
    simp only [cCode, Option.map_eq_some_iff] at hc
    obtain ⟨cx, hx, rfl⟩ := hc
    simp only [evCC, Option.map_eq_some_iff] at hev
    obtain ⟨⟨ex1, c1⟩, h1, h2⟩ := hev
    refine wpIn_block (code_ok se hm n x hx cr hro h1 fun G1 a1 w1 x1 cr1 hrd1 => ?_)
    cases ex1 with
    | normal =>
      simp only [Prod.mk.injEq] at h2
      obtain ⟨rfl, rfl⟩ := h2
      exact hq G1 a1 w1 x1 cr1 hrd1
    | exit i =>
      simp only [Prod.mk.injEq] at h2
      obtain ⟨rfl, rfl⟩ := h2
      have := hq G1 a1 w1 x1 cr1 hrd1
      show if i = id then _ else _
      by_cases e1 : i = id
      · rw [if_pos e1]
        rw [beq_true e1] at this
        exact this
      · rw [if_neg e1]
        rw [beq_false e1] at this
        exact this
    | ret =>
      simp only [Prod.mk.injEq] at h2
      obtain ⟨rfl, rfl⟩ := h2
      exact hq G1 a1 w1 x1 cr1 hrd1
  | .loop x, cc, hc, c, c', ex, G, w, a, Q, cr, hro, hev, hq => by
    simp only [cCode, Option.map_eq_some_iff] at hc
    obtain ⟨cx, hx, rfl⟩ := hc
    simp only [evCC] at hev
    have key : ∀ k {c : Cfg} {G1 : Gh} {w1 : World} {a1 : Act}, Ext G w G1 w1 → CR P e.E U0 lof nt base c G1 w1 a1 → RoR G1 ro c.rd → loopN k (evCC e n cx) c = some (ex, c') → (∀ G' a' w', Ext G1 w1 G' w' → CR P e.E U0 lof nt base c' G' w' a' → c'.rd = c.rd → Q (toExit ex) a' w') → Code.roundsIn (FW ro) 0 P x Q k a1 w1 := by
      intro k
      induction k with
      | zero => intro c G1 w1 a1 _ _ _ h; cases h
      | succ k ih =>
        intro c G1 w1 a1 x1 cr1 hro1 h hq1
        rw [loopN_succ] at h
        simp only [Option.bind_eq_some_iff] at h
        obtain ⟨⟨ex2, c2⟩, h1, h2⟩ := h
        rw [roundsIn_succ]
        refine code_ok se hm n x hx cr1 hro1 h1 fun G2 a2 w2 x2 cr2 hrd2 => ?_
        cases ex2 with
        | normal => exact ih (x1.trans x2) cr2 (by rw [hrd2]; exact hro1.ext x2) h2 fun G3 a3 w3 x3 cr3 hrd3 => hq1 G3 a3 w3 (x2.trans x3) cr3 (hrd3.trans hrd2)
        | exit i =>
          simp only [Option.some.injEq, Prod.mk.injEq] at h2
          obtain ⟨rfl, rfl⟩ := h2
          exact hq1 G2 a2 w2 x2 cr2 hrd2
        | ret =>
          simp only [Option.some.injEq, Prod.mk.injEq] at h2
          obtain ⟨rfl, rfl⟩ := h2
          exact hq1 G2 a2 w2 x2 cr2 hrd2
    exact wpIn_loop_rounds n (key n (Ext.refl G w) cr hro hev hq)
  | .rangeFunc g ps x y, cc, hc, c, c', ex, G, w, a, Q, cr, hro, hev, hq => by
    simp only [cCode, Option.bind_eq_some_iff] at hc
    obtain ⟨gg, hg, cx, hx, cy, hy, hc⟩ := hc
    obtain ⟨hps, hc⟩ := cond_none hc
    simp only [Option.some.injEq] at hc
    subst hc
    simp only [evCC] at hev
    obtain ⟨hin, hev⟩ := cond_none hev
    simp only [Bool.and_eq_true] at hin
    simp only [Option.bind_eq_some_iff] at hev
    obtain ⟨⟨rv, s1⟩, hcall, hev⟩ := hev
    simp only at hev
    split at hev <;> try (cases hev; done)
    rename_i st pend lf ll lps lx ly hloop
    obtain ⟨hst, hev⟩ := none_cond hev
    have hst1 : st ≠ 1 := fun e' => by subst e'; cases hst
    simp only [Option.bind_eq_some_iff] at hev
    obtain ⟨hp, hset, hev⟩ := hev
    refine wpIn_rangeFunc fun fn _ => ?_
    obtain ⟨l, mark, w1, G1, hent, x1, hbl, cr1⟩ := enter_ok cr hro hin.1 hx hy (fun p hp => blt_iff.1 (List.all_eq_true.1 hps p hp)) fn
    have hfv := (arg_ok hg (cr.fr.reads (a := a) gg.tmps)).ext x1
    have hargs : VRs G1 w1 [.yield c.s.next] #[Value.func (.yield l) #[] #[]].toList := VRs.nil.cons (.yield _ _ hbl)
    obtain ⟨f0, first, cap, hu, hcf⟩ := se.callf hcall hin.2 cr1.mr hfv hargs
    have hcv := se.callv hcall cr1.mr hfv hargs
    refine ⟨l, mark, w1, { target := .fn (.func f0) cap, args := first ++ #[Value.func (.yield l) #[] #[]] }, w1, f0, first ++ #[Value.func (.yield l) #[] #[]] ++ cap, w1, hent, ?_, fun _ _ => trivial, ?_, (fun h => by cases h), ?_⟩
    · show (Deferred.ofValue (a.eval g) _).run P w1 = _
      rw [ofValue_run _ _ _ (.func f0) first cap hu, show Array.map a.eval (rangeCall g l).args = #[Value.func (.yield l) #[] #[]] by simp [rangeCall, Act.eval]]
    · exact hcf
    · have hn : NextP P (EffP P e.E U0 (fun _ => none) G1 w1 c.l s1 rv) (.ok (.enter f0 (first ++ #[Value.func (.yield l) #[] #[]] ++ cap)) w1) := by
        rw [Sem.run_bind, ofValue_run _ _ _ (.func f0) first cap hu] at hcv
        simp only [Result.andThen_ok, invoke] at hcv
        rw [hcf] at hcv
        exact hcv
      refine CallsIn.mono (F := Fence.wide) hn fun en w2 h => ?_
      obtain ⟨u, rfl, G2, x2, mr2, hvr⟩ := h
      have cr2 : CR P e.E U0 lof nt base { c with s := s1 } G2 w2 { a with defers := mark ++ a.defers } := ⟨cr1.fr.ext x2, cr1.sz, mr2, cr1.lh, cr1.df.ext x2, Nat.le_trans cr1.bs x2.size⟩
      obtain ⟨jump, w3, hend, hpend, x3, cr3⟩ := loop_end (k := c.s.next) cr2 (x2.bOf _ _ hbl) hloop hst1 hset
      refine ⟨jump, w3, hend, ?_⟩
      have hx := (x1.trans x2).trans x3
      cases pend with
      | none =>
        simp only [Option.some.injEq, Prod.mk.injEq] at hev
        obtain ⟨rfl, rfl⟩ := hev
        cases jump with
        | none => exact hq G2 _ w3 hx cr3 rfl
        | some j => exact hpend.elim
      | some pc =>
        cases pc with
        | ret =>
          simp only [Option.some.injEq, Prod.mk.injEq] at hev
          obtain ⟨rfl, rfl⟩ := hev
          cases jump with
          | none => exact hpend.elim
          | some j =>
            cases j with
            | ret => exact wpIn_ret (hq G2 _ w3 hx cr3 rfl)
            | _ => exact hpend.elim
        | exit i =>
          simp only [Option.some.injEq, Prod.mk.injEq] at hev
          obtain ⟨rfl, rfl⟩ := hev
          cases jump with
          | none => exact hpend.elim
          | some j =>
            cases j with
            | exit i' =>
              have : i = i' := hpend
              subst this
              exact wpIn_exit (hq G2 _ w3 hx cr3 rfl)
            | _ => exact hpend.elim
        | _ => cases hev
  | .exit i, cc, hc, c, c', ex, G, w, a, Q, cr, hro, hev, hq => by
    simp only [cCode, Option.some.injEq] at hc
    subst hc
    simp only [evCC, Option.some.injEq, Prod.mk.injEq] at hev
    obtain ⟨rfl, rfl⟩ := hev
    exact wpIn_exit (hq G a w (Ext.refl G w) cr rfl)
  | .ret, cc, hc, c, c', ex, G, w, a, Q, cr, hro, hev, hq => by
    simp only [cCode, Option.some.injEq] at hc
    subst hc
    simp only [evCC, Option.some.injEq, Prod.mk.injEq] at hev
    obtain ⟨rfl, rfl⟩ := hev
    exact wpIn_ret (hq G a w (Ext.refl G w) cr rfl)
  | .label _, cc, hc, _, _, _, _, _, _, _, _, _, hev, _ => by
    simp only [cCode, Option.some.injEq] at hc
    subst hc
    simp only [evCC, reduceCtorEq] at hev
  | .goto _, cc, hc, _, _, _, _, _, _, _, _, _, hev, _ => by
    simp only [cCode, Option.some.injEq] at hc
    subst hc
    simp only [evCC, reduceCtorEq] at hev
  | .scope _, cc, hc, _, _, _, _, _, _, _, _, _, hev, _ => by
    simp only [cCode, Option.some.injEq] at hc
    subst hc
    simp only [evCC, reduceCtorEq] at hev
  | .refuse _, cc, hc, _, _, _, _, _, _, _, _, _, hev, _ => by
    simp only [cCode, Option.some.injEq] at hc
    subst hc
    simp only [evCC, reduceCtorEq] at hev
end Go.AI

/- Functions: leaving. -/
namespace Go.AI
variable {P : Program} {e : Env} {lof : Nat → Option Nat} {nt base : Nat}

section
variable {E : Heap} {U pd : Nat → Option (List AVal)} {l : Tr (Nat × List AVal)} {s : ASt} {G G0 : Gh} {w w0 w' : World} {r : Nat}
theorem quiet_cell (sw : Swap r w w') (hr : G.own r = .misc) : ∀ (ad : Addr) v, w.cell? ad = some v → G.S ad.block ad.off → w'.cell? ad = some v ∧ G.S ad.block ad.off := by
  intro ad v hc hs
  refine ⟨?_, hs⟩
  have : ad.block ≠ r := fun e' => by
    unfold Gh.S at hs
    rw [e', hr] at hs
    exact hs
  unfold World.cell? at hc ⊢
  rw [sw.same _ this]
  exact hc
theorem PR.quiet (sw : Swap r w w') (hr : G.own r = .misc) {c : PVal} {v : Value} (h : PR G.S w c v) : PR G.S w' c v := h.mono (quiet_cell sw hr)
theorem Right.quiet (sw : Swap r w w') (hr : G.own r = .misc) {n : Nat} {cs : List PVal} {t : Nat} {a : Option Addr} {cap : Nat} (h : Right G w n cs t a cap) : Right G w' n cs t a cap := by
  refine ⟨h.1, fun b m sz hb => ?_⟩
  obtain ⟨h1, h2⟩ := h.2 b m sz hb
  refine ⟨h1, fun e' => ?_⟩
  obtain ⟨h3, h4, h5, c, E, h6, h7⟩ := h2 e'
  exact ⟨h3, h4, h5, c, E, by rw [sw.same b (fun e' => by rw [e', hr] at hb; cases hb)]; exact h6, h7⟩
theorem VR.quiet (sw : Swap r w w') (hr : G.own r = .misc) {c : AVal} {v : Value} (h : VR G w c v) : VR G w' c v := by
  induction h with
  | p c v hp => exact .p c v (hp.quiet sw hr)
  | full n cs a hp => exact .full n cs a (hp.quiet sw hr)
  | own n cs t a cap hp q => exact .own n cs t a cap (hp.quiet sw hr) (q.quiet sw hr)
  | lptr i g off b hb => exact .lptr i g off b hb
  | ptr l off b hb => exact .ptr l off b hb
  | elem cs i ad he =>
    refine .elem cs i ad fun j c hc => ?_
    obtain ⟨v, h1, h2, h3, h4⟩ := he j c hc
    exact ⟨v, (quiet_cell sw hr (ad.add j) v h1 (by rw [add_block, add_off]; exact h2)).1, h2, h3.quiet sw hr, h4⟩
  | func f fs cps vs us hl hm _ _ ih ik => exact .func f fs cps vs us hl hm ih ik
  | yield l b hb => exact .yield l b hb
  | map l b hb => exact .map l b hb
  | agg cs vs hl h1 _ ih => exact .agg cs vs hl h1 ih
  | tuple cs vs hl _ ih => exact .tuple cs vs hl ih
  | junk v => exact .junk v
theorem BR.quiet (sw : Swap r w w') (hr : G.own r = .misc) {b : Nat} (hb : b ≠ r) {cs : List AVal} (h : BR G w b cs) : BR G w' b cs := by
  obtain ⟨c, E, h1, h2, h3, h4⟩ := h
  exact ⟨c, E, by rw [sw.same b hb]; exact h1, h2, h3, fun j a v ha hv => (h4 j a v ha hv).quiet sw hr⟩
theorem OR.quiet (sw : Swap r w w') (hr : G.own r = .misc) {b : Nat} (hb : b ≠ r) {o : HObj} (h : OR P G w b o) : OR P G w' b o := by
  cases o with
  | cells cs => exact ⟨h.1.quiet sw hr hb, h.2⟩
  | map es =>
    obtain ⟨ents, clock, h1, h2, h3⟩ := h
    exact ⟨ents, clock, by rw [sw.same b hb]; exact h1, h2, fun j k y e ha hv => ⟨(h3 j k y e ha hv).1.quiet sw hr, (h3 j k y e ha hv).2.quiet sw hr⟩⟩
  | loop st pend f l ps a c =>
    obtain ⟨q, h1, h2⟩ := h
    exact ⟨q, by rw [sw.same b hb]; exact h1, ⟨h2.st_, h2.pend_, ⟨fun t => (h2.f_.1 t).quiet sw hr, h2.f_.2⟩, h2.aw, h2.ps_, h2.psl, h2.l_, h2.code⟩⟩
  | gone =>
    obtain ⟨q, h1⟩ := h
    exact ⟨q, by rw [sw.same b hb]; exact h1⟩
theorem MR.quiet (h : MR P E U pd l s G w) (sw : Swap r w w') (hr : G.own r = .misc) : MR P E U pd l s G w' := by
  have hne : ∀ y q, G.own y = q → q ≠ .misc → y ≠ r := fun y q h1 h2 e' => h2 (by rw [← h1, e', hr])
  refine ⟨fun b hb => by rw [sw.size]; exact h.own b hb, h.bOf, h.lo_, h.un, h.pdz, h.nt, fun i g cs hl hg hp => ?_, h.lam, fun k o hk => ?_, fun k o hk => ?_, h.tok.step (fun _ _ _ _ h => h) (fun _ _ _ _ h => h) (fun y _ _ _ ho => sw.same y (hne y _ ho (by simp)))⟩
  · obtain ⟨b, h1, h2, h3⟩ := h.loc i g cs hl hg hp
    exact ⟨b, h1, h2, h3.quiet sw hr (hne b _ h2 (by simp))⟩
  · obtain ⟨h1, h2⟩ := h.heap k o hk
    exact ⟨h1, h2.imp id fun ⟨b, h3, h4, h5⟩ => ⟨b, h3, h4, h5.quiet sw hr (hne b _ h4 (by simp))⟩⟩
  · obtain ⟨h1, h2⟩ := h.ro k o hk
    exact ⟨h1, h2.imp id fun ⟨b, j, h3, h4, h5⟩ => ⟨b, j, h3, h4, h5.quiet sw hr (hne b _ h4 (by simp))⟩⟩
theorem Ext.quiet (x : Ext G0 w0 G w) (sw : Swap r w w') (hr : w0.heap.size ≤ r) : Ext G0 w0 G w' where
  size := by rw [sw.size]; exact x.size
  os := sw.os.trans x.os
  tape := sw.tape.trans x.tape
  output := sw.output.trans x.output
  still := fun b hb hs => by
    obtain ⟨h1, h2⟩ := x.still b hb hs
    exact ⟨(sw.same b (by omega)).trans h1, h2⟩
  tok := fun b t n sz hb ho => by
    obtain ⟨h1, h2⟩ := x.tok b t n sz hb ho
    refine ⟨fun o v hlt hc => ?_, h2⟩
    have := h1 o v hlt hc
    unfold World.cell? at this ⊢
    rw [sw.same b (by omega)]
    exact this
  shape := fun b t n sz c E' ho hc hx => by
    obtain ⟨c', h1, h2⟩ := x.shape b t n sz c E' ho hc hx
    have := (Array.getElem?_eq_some_iff.1 hc).1
    exact ⟨c', by rw [sw.same b (by omega)]; exact h1, h2⟩
  loc := x.loc
  lcl := x.lcl
  bOf := x.bOf
  lam := x.lam
  nt := x.nt
  cold := fun a => (sw.cold a).trans (x.cold a)
  lo_ := x.lo_
  low := x.low
  old := x.old
end
end Go.AI

/- Functions: results, and the body. -/
namespace Go.AI
variable {P : Program} {e : Env} {lof : Nat → Option Nat} {nt base : Nat} {U0 : Nat → Option (List AVal)}

theorem rvs_ok {c : Cfg} {G : Gh} {w : World} {a : Act} (fr : FR G w c.f a.tmps) (mr : MR P e.E U0 (fun _ => none) c.l c.s G w) : ∀ (rs : List ResultVar) (res : List RV) (vs : List AVal), cRes P rs = some res → rvs e c res = some vs →
    ∃ us : List Value, (rs.mapM (fun (r : ResultVar) => match r with | .tmp t => (pure (a.tmps.getD t undef) : Sem Value) | .cell x t => do loadVar t (← asAddr (a.tmps.getD x undef)))).run P w = .ok us w ∧ VRs G w vs us
  | [], res, vs, hc, hv => by
    simp only [cRes, Option.some.injEq] at hc
    subst hc
    simp only [rvs, Option.some.injEq] at hv
    subst hv
    exact ⟨[], rfl, .nil⟩
  | .tmp t :: rs, res, vs, hc, hv => by
    simp only [cRes, Option.map_eq_some_iff] at hc
    obtain ⟨res', hr, rfl⟩ := hc
    simp only [rvs, Option.map_eq_some_iff] at hv
    obtain ⟨vs', hv', rfl⟩ := hv
    obtain ⟨us, h1, h2⟩ := rvs_ok fr mr rs res' vs' hr hv'
    refine ⟨a.tmps.getD t undef :: us, ?_, h2.cons (fr.1 t)⟩
    simp only [List.mapM_cons, Sem.run_bind, Sem.run_pure, Result.andThen_ok, h1]
  | .cell x t :: rs, res, vs, hc, hv => by
    simp only [cRes, Option.bind_eq_some_iff, Option.map_eq_some_iff] at hc
    obtain ⟨n, hn, res', hr, rfl⟩ := hc
    simp only [rvs, Option.bind_eq_some_iff, Option.map_eq_some_iff] at hv
    obtain ⟨cs, hcs, v, hv1, vs', hv', rfl⟩ := hv
    obtain ⟨us, h1, h2⟩ := rvs_ok fr mr rs res' vs' hr hv'
    obtain ⟨ad, ls, k1, k2, k3, k4, k5⟩ := load_cells mr (fr.1 x) hcs
    obtain ⟨u, k6, k7, k8⟩ := load_run (P := P) hn k2 k5
    have k9 : (loadVar t ad).run P w = .ok u w := by
      simpa [Instr.loadAt, Instr.sureAddr] using k6
    have k10 : VR G w v u := by
      obtain ⟨q1, q2⟩ := ofCells_ok hv1 k3 k4
      cases n with
      | none =>
        obtain ⟨u', e', q3⟩ := q1 rfl
        rw [k7 rfl] at e'
        cases e'
        exact q3
      | some m =>
        rw [k8 m rfl]
        exact q2 m rfl
    refine ⟨u :: us, ?_, h2.cons k10⟩
    rw [List.mapM_cons]
    simp only [Sem.run_bind, k1, show asAddr (.pointer (some ad)) = pure ad from rfl, Sem.run_pure, Result.andThen_ok, k9, h1]
theorem ret_ok {G : Gh} {w : World} {vs : List AVal} {us : List Value} (h : VRs G w vs us) : VR G w (retVal vs) (if h : us.toArray.size = 1 then us.toArray[0] else .tuple us.toArray) := by
  match vs, us, h with
  | [], [], _ => exact .undef
  | [v], [u], h => exact h.2 0 v u rfl rfl
  | v :: v' :: vs, u :: u' :: us, h =>
    have hs : (u :: u' :: us).toArray.size ≠ 1 := by simp
    rw [dif_neg hs]
    exact .tuple _ _ (by simpa using h.1) fun i c x hc hx => h.2 i c x hc (by simpa using hx)
  | [], _ :: _, h => simp [VRs] at h
  | _ :: _, [], h => simp [VRs] at h
  | [_], _ :: _ :: _, h => simp [VRs] at h
  | _ :: _ :: _, [_], h => simp [VRs] at h
theorem results_ok {c : Cfg} {G : Gh} {w : World} {a : Act} (fr : FR G w c.f a.tmps) (mr : MR P e.E U0 (fun _ => none) c.l c.s G w) {fn : Func} {res : List RV} {vs : List AVal} (hc : cRes P fn.results.toList = some res) (hv : rvs e c res = some vs) :
    ∃ u, (results fn a.tmps).run P w = .ok u w ∧ VR G w (retVal vs) u := by
  obtain ⟨us, h1, h2⟩ := rvs_ok fr mr _ _ _ hc hv
  refine ⟨_, ?_, ret_ok h2⟩
  unfold results
  rw [Sem.run_bind, Array.mapM_eq_mapM_toList, map_eq_pure_bind, Sem.run_bind]
  have h3 := h1
  refine (congrArg (fun r => Result.andThen (Result.andThen r _) _) h3).trans ?_
  rfl

/-- Leaving: the marks; then the results. -/
theorem leave_ok {c : Cfg} {G0 G : Gh} {w0 : World} {a : Act} {fn : Func} {res : List RV} {vs : List AVal} (hc : cRes P fn.results.toList = some res) (hv : rvs e c res = some vs) {R : Ending → World → Prop}
    (hR : ∀ u w', Ext G0 w0 G w' → MR P e.E U0 (fun _ => none) c.l c.s G w' → VR G w' (retVal vs) u → R (.returned u) w') :
    ∀ (ds : List Deferred) (w : World), Ext G0 w0 G w → FR G w c.f a.tmps → MR P e.E U0 (fun _ => none) c.l c.s G w → Marks w0.heap.size G w ds → LeavesInM Fence.wide 0 P fn a.tmps R ds .returning w
  | [], w, x, fr, mr, _ => by
    obtain ⟨u, h1, h2⟩ := results_ok fr mr hc hv
    exact ⟨u, h1, hR u w x mr h2⟩
  | d :: ds, w, x, fr, mr, ⟨⟨r, h1, h2, h3, h4, h5⟩, hm⟩ => by
    have sw := Swap.setObj h4 (.deferred none)
    refine ⟨by simp, .inl ⟨r, _, h1, ?_, leave_ok hc hv hR ds _ (x.quiet sw h2) ⟨fun t => (fr.1 t).quiet sw h3, fr.2⟩ (mr.quiet sw h3) ?_⟩⟩
    · simp [Instr.takeDeferred, getObj, setObj, Sem.run, h4]
    · have : ∀ ds : List Deferred, (∀ d' ∈ ds, d'.target ≠ .collected r) → Marks w0.heap.size G w ds → Marks w0.heap.size G { w with heap := w.heap.setIfInBounds r (.deferred none) } ds := by
        intro ds
        induction ds with
        | nil => intros; trivial
        | cons d ds ih =>
          rintro hne ⟨⟨q, k1, k2, k3, k4, k5⟩, k6⟩
          have hqr : q ≠ r := fun e' => hne d (List.mem_cons_self) (by rw [k1, e'])
          exact ⟨⟨q, k1, k2, k3, by rw [sw.same q hqr]; exact k4, k5⟩, ih (fun d' hd' => hne d' (List.mem_cons_of_mem _ hd')) k6⟩
      exact this ds h5 hm
end Go.AI

/- Functions: calls; the environment. -/
namespace Go.AI
variable {P : Program}

theorem setArgs_has : ∀ (args : List AVal) (f : Tr AVal) (k t : Nat), (setArgs f k args).has t = f.has t
  | [], _, _, _ => rfl
  | v :: r, f, k, t => by
    rw [setArgs, setArgs_has r, Tr.has_set]
theorem setArgs_get : ∀ (args : List AVal) (f : Tr AVal) (k t : Nat), (∀ i, i < args.length → f.has (k + i) = true) → (setArgs f k args).get undefA t = if k ≤ t then (match args[t - k]? with | some v => v | none => f.get undefA t) else f.get undefA t
  | [], f, k, t, _ => by simp [setArgs]
  | v :: r, f, k, t, h => by
    rw [setArgs, setArgs_get r (f.set k v) (k + 1) t (fun i hi => by
      rw [Tr.has_set]
      have := h (i + 1) (by simp; omega)
      rw [show k + 1 + i = k + (i + 1) by omega]
      exact this)]
    have hk := h 0 (by simp)
    rw [Nat.add_zero] at hk
    by_cases h1 : k + 1 ≤ t
    · rw [if_pos h1, if_pos (by omega), show t - k = (t - (k + 1)) + 1 by omega, List.getElem?_cons_succ]
      cases r[t - (k + 1)]? with
      | some v => rfl
      | none => exact Tr.get_set_ne _ _ _ _ _ (by omega)
    · rw [if_neg h1]
      by_cases h2 : k = t
      · subst h2
        rw [if_pos (Nat.le_refl _), Nat.sub_self, List.getElem?_cons_zero, Tr.get_set_eq _ _ _ _ hk]
      · rw [if_neg (by omega), Tr.get_set_ne _ _ _ _ _ h2]

theorem cFunc_spec {fl : Flag} {fn : Func} {cf : CF} (h : cFunc P fl fn = some cf) : ∃ body, fn.body = some body ∧ fn.ntmps < 2 ^ cf.depth ∧ fl.locals.length < 2 ^ cf.ldepth ∧ cf.np ≤ fn.ntmps ∧ cRes P fn.results.toList = some cf.res ∧ cCode P (fun t => findIx fl.locals t 0) fn.ntmps body = some cf.body := by
  unfold cFunc at h
  split at h
  · cases h
  · rename_i body hb
    obtain ⟨hc, h⟩ := cond_none h
    simp only [Option.bind_eq_some_iff, Option.map_eq_some_iff] at h
    obtain ⟨res, hr, b, hcb, rfl⟩ := h
    simp only [Bool.and_eq_true] at hc
    exact ⟨body, hb, blt_iff.1 hc.1, blt_iff.1 hc.2.1, ble_iff.1 hc.2.2, hr, hcb⟩
theorem findIx_lt : ∀ (l : List Nat) (t k i : Nat), findIx l t k = some i → i < k + l.length
  | [], _, _, _, h => by cases h
  | x :: r, t, k, i, h => by
    unfold findIx at h
    cases hb : Nat.beq x t with
    | true =>
      rw [hb] at h
      simp only [cond_true, Option.some.injEq] at h
      subst h
      simp
    | false =>
      rw [hb] at h
      have := findIx_lt r t (k + 1) i h
      simp
      omega

/-- A body's run. -/
theorem run_ok {e : Env} (se : SoundEnv P e) (hm : P.follows .mixedOrders = true) {f : FuncId} {fn : Func} {fl : Flag} {cf : CF} (hf : P.funcs[f]? = some fn) (hcf : cFunc P fl fn = some cf) {n : Nat} {U : Nat → Option (List AVal)} {args : List AVal} {s : ASt} {G : Gh} {w : World} {vs : Array Value}
    (hnp : args.length = cf.np) (mr : MR P e.E U (fun _ => none) (Tr.mk (0, []) cf.ldepth) s G w) (ha : VRs G w args vs.toList) {r : EX × Cfg} (hev : evCC e n cf.body ⟨setArgs (Tr.mk undefA cf.depth) 0 args, Tr.mk (0, []) cf.ldepth, [], none, s⟩ = some r) {v : AVal} (hl : leave e cf r = some v) :
    CallsIn Fence.wide 0 P f vs w fun ex w' => ∃ u, ex = .returned u ∧ ∃ G', Ext G w G' w' ∧ MR P e.E U (fun _ => none) r.2.l r.2.s G' w' ∧ VR G' w' v u := by
  obtain ⟨body, hb, hd, hld, hle, hres, hcode⟩ := cFunc_spec hcf
  obtain ⟨ex, c'⟩ := r
  have hsz : vs.size = args.length := by have := ha.1; simpa using this.symm
  have hin : ∀ t, t < fn.ntmps → (Tr.mk undefA cf.depth).has t = true := fun t ht => Tr.has_mk _ _ _ (by omega)
  have hlen : (vs ++ Array.replicate (fn.ntmps - vs.size) undef).size = fn.ntmps := by simp; omega
  have cr : CR P e.E U (fun t => findIx fl.locals t 0) fn.ntmps w.heap.size ⟨setArgs (Tr.mk undefA cf.depth) 0 args, Tr.mk (0, []) cf.ldepth, [], none, s⟩ G w { tmps := vs ++ Array.replicate (fn.ntmps - vs.size) undef, defers := [] } := by
    refine ⟨⟨fun t => ?_, fun t ht => ?_⟩, hlen, mr, fun t j hj => Tr.has_mk _ _ _ (by have := findIx_lt _ _ _ _ hj; omega), trivial, Nat.le_refl _⟩
    · show VR G w ((setArgs (Tr.mk undefA cf.depth) 0 args).get undefA t) ((vs ++ Array.replicate (fn.ntmps - vs.size) undef).getD t undef)
      rw [setArgs_get _ _ _ _ (fun i hi => hin _ (by omega)), if_pos (Nat.zero_le _), Nat.sub_zero, Tr.get_mk]
      by_cases ht : t < args.length
      · rw [List.getElem?_eq_getElem ht, Array.getD_eq_getD_getElem?, Array.getElem?_append_left (by omega), Array.getElem?_eq_getElem (by omega), Option.getD_some]
        exact ha.2 t _ _ (List.getElem?_eq_getElem ht) (by rw [Array.getElem?_toList]; exact Array.getElem?_eq_getElem (by omega))
      · rw [List.getElem?_eq_none (by omega), Array.getD_eq_getD_getElem?, Array.getElem?_append_right (by omega), Array.getElem?_replicate]
        have hu : ((if t - vs.size < fn.ntmps - vs.size then some undef else none : Option Value).getD undef) = undef := by split <;> rfl
        rw [hu]
        exact .undef
    · rw [setArgs_has]
      exact hin t (by rw [hlen] at ht; exact ht)
  refine callsIn_of_wp_marks (F := Fence.wide) hf hb trivial ?_
  refine code_ok (ro := none) se hm n body hcode cr trivial hev fun G' a' w' x cr' _ => ?_
  unfold leave at hl
  have fin : ∀ vs', rvs e c' cf.res = some vs' → retVal vs' = v → LeavesInM Fence.wide 0 P fn a'.tmps (fun ex w' => ∃ u, ex = .returned u ∧ ∃ G', Ext G w G' w' ∧ MR P e.E U (fun _ => none) c'.l c'.s G' w' ∧ VR G' w' v u) a'.defers .returning w' := by
    intro vs' hvs hv
    refine leave_ok (G := G') hres hvs (fun u w2 x2 mr2 hu => ⟨u, rfl, G', x2, mr2, by rw [← hv]; exact hu⟩) a'.defers w' x cr'.fr cr'.mr cr'.df
  cases ex with
  | normal =>
    simp only [Option.map_eq_some_iff] at hl
    obtain ⟨vs', h1, h2⟩ := hl
    exact fin vs' h1 h2
  | ret =>
    simp only [Option.map_eq_some_iff] at hl
    obtain ⟨vs', h1, h2⟩ := hl
    exact fin vs' h1 h2
  | exit i => cases hl

theorem callFunc_run {f : FuncId} {fn : Func} {body : Code} (hf : P.funcs[f]? = some fn) (hb : fn.body = some body) (hn : (fn.name == "runtime.NumGoroutine") = false) (vs : Array Value) (w : World) : (callFunc f vs).run P w = .ok (.enter f vs) w := by
  unfold callFunc
  have h1 : ∀ x : Program, (program : Sem Program).run P w = .ok P w := fun _ => rfl
  rw [Sem.run_bind, h1 P]
  simp only [Result.andThen_ok, hf, hn, hb, Option.isNone_some, Bool.false_eq_true, if_false]
  rfl

structure ProgOK (P : Program) (CP : Nat → Option CF) : Prop where
  orders : P.follows .mixedOrders = true
  code : ∀ f cf, CP f = some cf → ∃ fn fl, P.funcs[f]? = some fn ∧ cFunc P fl fn = some cf ∧ (fn.name == "runtime.NumGoroutine") = false

theorem mkEnv_E (CP : Nat → Option CF) (n : Nat) (E : Heap) : (mkEnv CP n E).E = E := by cases n <;> rfl
theorem mkEnv_pure (CP : Nat → Option CF) (n : Nat) (E : Heap) : (mkEnv CP n E).pure = isPureF CP := by cases n <;> rfl

theorem erase_args {G : Gh} {w : World} {args : List AVal} {vs : List Value} (keep : Bool) (h : VRs G w args vs) : VRs G w (cond keep args (args.map erase)) vs := by
  cases keep with
  | true => exact h
  | false =>
    refine ⟨by simpa using h.1, fun i c v hc hv => ?_⟩
    simp only [cond_false, List.getElem?_map, Option.map_eq_some_iff] at hc
    obtain ⟨d, hd, rfl⟩ := hc
    exact erase_ok (h.2 i d v hd hv)
theorem erase_away {args : List AVal} (keep : Bool) (h : args.all awayC = true) : (cond keep args (args.map erase)).all awayC = true := by
  cases keep with
  | true => exact h
  | false =>
    simp only [cond_false, List.all_eq_true]
    intro x hx
    obtain ⟨y, hy, rfl⟩ := List.mem_map.1 hx
    exact awayC_erase y (List.all_eq_true.1 h y hy)
theorem cond_len {args : List AVal} (keep : Bool) : (cond keep args (args.map erase)).length = args.length := by cases keep <;> simp

/-- A call. -/
theorem applyF_ok {CP : Nat → Option CF} (pk : ProgOK P CP) {n : Nat} (ih : ∀ E, SoundEnv P (mkEnv CP n E)) {E : Heap} {f : Nat} {args : List AVal} {s s' : ASt} {v : AVal} (h : applyF CP (mkEnv CP n) n E f args s = some (v, s')) {U pd : Nat → Option (List AVal)} {l : Tr (Nat × List AVal)} {G : Gh} {w : World} {vs : Array Value}
    (mr : MR P E U pd l s G w) (ha : VRs G w args vs.toList) : (callFunc f vs).run P w = .ok (.enter f vs) w ∧ NextP P (EffP P E U pd G w l s' v) ((callFunc f vs).run P w) := by
  unfold applyF at h
  simp only [Option.bind_eq_some_iff] at h
  obtain ⟨cf, hcf, h⟩ := h
  obtain ⟨fn, fl, hf, hc, hname⟩ := pk.code f cf hcf
  obtain ⟨body, hb, _⟩ := cFunc_spec hc
  have hrun := callFunc_run hf hb hname vs w
  refine ⟨hrun, ?_⟩
  rw [hrun]
  obtain ⟨hg, h⟩ := cond_none h
  simp only [Bool.and_eq_true] at hg
  have hnp := beq_iff.1 hg.1
  have h0 : ∀ i, (Tr.mk ((0, []) : Nat × List AVal) cf.ldepth).get (0, []) i = (0, []) := fun i => Tr.get_mk _ _ _
  -- a run that leaves no trace
  have quiet : ∀ (as_ : List AVal) (u : AVal), as_.length = cf.np → as_.all awayC = true → VRs G w as_ vs.toList → runP (mkEnv CP n (s.heap ++ E)) n cf as_ s = some u →
      CallsIn Fence.wide 0 P f vs w fun ex w' => ∃ x, ex = .returned x ∧ ∃ G', Ext (G.fix s.next) w G' w' ∧ VR G' w' u x := by
    intro as_ u hlen haw hvr hr
    unfold runP at hr
    simp only [Option.bind_eq_some_iff] at hr
    obtain ⟨r, hr1, hr2⟩ := hr
    have mr0 := mr.fix h0
    rw [← mkEnv_E CP n (s.heap ++ E)] at mr0
    refine CallsIn.mono (run_ok (ih (s.heap ++ E)) pk.orders hf hc hlen mr0 ⟨hvr.1, fun i c x hci hx => (moves_fix s.next).atC (hvr.2 i c x hci hx) (all_get haw hci)⟩ hr1 hr2) fun ex w' ⟨x, h1, G', h2, _, h3⟩ => ⟨x, h1, G', h2, h3⟩
  cases hcl : cf.clone && isNil0 (args.map erase) with
  | true =>
    rw [hcl] at h
    simp only [cond_true, Option.bind_eq_some_iff] at h
    obtain ⟨a, ha1, b, hb1, h⟩ := h
    obtain ⟨hab, h⟩ := cond_none h
    simp only [Option.some.injEq, Prod.mk.injEq] at h
    obtain ⟨rfl, rfl⟩ := h
    simp only [Bool.and_eq_true] at hcl hab
    -- one argument, an empty row
    have ha2 := erase_args false ha
    simp only [cond_false] at ha2
    have hone : args.map erase = [.p (.sl 0 [])] := by
      have := hcl.2
      unfold isNil0 at this
      split at this
      · assumption
      · cases this
    rw [hone] at ha2
    have hlen1 : args.length = 1 := by have := congrArg List.length hone; simpa using this
    have hvs : vs.size = 1 := by have := ha.1; simp at this; omega
    have hv0 : vs[0]? = some vs[0] := Array.getElem?_eq_getElem (by omega)
    have hvx := ha2.2 0 _ _ rfl (by rw [Array.getElem?_toList]; exact hv0)
    obtain ⟨ad, cap, ex0, _⟩ := row_inv (n := 0) (cs := []) rfl hvx
    have hfull : ∀ {q : AVal} {G' : Gh} {w' : World} {x : Value}, isFull0 q = true → VR G' w' q x → ∃ a', x = .slice a' 0 0 := by
      intro q G' w' x hq hx
      unfold isFull0 at hq
      split at hq
      · cases hx with
        | full _ _ a' _ => exact ⟨a', rfl⟩
      · cases hq
    have done : ∀ (as0 : AVal) (q : AVal), awayC as0 = true → VR G w as0 vs[0] → isFull0 q = true → runP (mkEnv CP n (s.heap ++ E)) n cf [as0] s = some q → NextP P (EffP P E U pd G w l s (.sl 0 [] .full)) (.ok (.enter f vs) w) := by
      intro as0 q haw hvr hq hr
      refine CallsIn.mono (quiet [as0] q (by rw [← hnp, hlen1]; rfl) (by simp [haw]) ⟨by simp [hvs], fun i c x hci hx => ?_⟩ hr) fun en w' ⟨x, h1, G', h2, h3⟩ => ⟨x, h1, ?_⟩
      · cases i with
        | zero =>
          simp only [List.getElem?_cons_zero, Option.some.injEq] at hci
          rw [Array.getElem?_toList, hv0] at hx
          cases hci; cases hx
          exact hvr
        | succ i => simp at hci
      · obtain ⟨a', rfl⟩ := hfull hq h3
        exact ⟨G, (keep_fix h2).ext G, mr.keep (keep_fix h2), .full 0 [] a' (PR.nil_row _ _)⟩
    cases ad with
    | none => exact done (.p .nilSl) a rfl (by rw [ex0]; exact .p _ _ (.nilSl cap)) hab.1 ha1
    | some ad => exact done (.p .emSl) b rfl (by rw [ex0]; exact .p _ _ (.emSl ad cap)) hab.2 hb1
  | false =>
    rw [hcl] at h
    simp only [cond_false] at h
    have ha' := erase_args cf.keepA ha
    have haw := erase_away cf.keepA hg.2
    have hlen : (cond cf.keepA args (args.map erase)).length = cf.np := by rw [cond_len]; exact hnp
    cases hp : cf.pure with
    | true =>
      rw [hp] at h
      simp only [cond_true, Option.bind_eq_some_iff] at h
      obtain ⟨u, hu, h⟩ := h
      obtain ⟨hpl, h⟩ := cond_none h
      simp only [Option.some.injEq, Prod.mk.injEq] at h
      obtain ⟨rfl, rfl⟩ := h
      exact CallsIn.mono (quiet _ u hlen haw ha' hu) fun ex w' ⟨x, h1, G', h2, h3⟩ => ⟨x, h1, eff_unfix mr h2 (erase_ok h3) hpl⟩
    | false =>
      rw [hp] at h
      simp only [cond_false, Option.bind_eq_some_iff] at h
      obtain ⟨r, hr, u, hu, h⟩ := h
      obtain ⟨hpl, h⟩ := cond_none h
      simp only [Option.some.injEq, Prod.mk.injEq] at h
      obtain ⟨rfl, rfl⟩ := h
      have mr0 := mr.sub h0
      rw [← mkEnv_E CP n E] at mr0
      refine CallsIn.mono (run_ok (ih E) pk.orders hf hc hlen mr0 ⟨ha'.1, fun i c x hci hx => moves_sub.atC (ha'.2 i c x hci hx) (all_get haw hci)⟩ hr hu) fun ex w' ⟨x, h1, G', h2, h3, h4⟩ => ⟨x, h1, ?_⟩
      rw [mkEnv_E] at h3
      refine eff_back mr h2 h3 ?_ hpl
      cases cf.keepR with
      | true => exact h4
      | false => exact erase_ok h4

/-! ### Calls of values -/
theorem VRs.map_whole {G : Gh} {w : World} {cs : List PVal} {vs : Array Value} (hl : cs.length = vs.size) (h : ∀ (i : Nat) c v, cs[i]? = some c → vs[i]? = some v → PR G.S w c v) : VRs G w (cs.map PVal.whole) vs.toList := by
  refine ⟨by simpa using hl, fun i c v hc hv => ?_⟩
  simp only [List.getElem?_map, Option.map_eq_some_iff] at hc
  obtain ⟨d, hd, rfl⟩ := hc
  exact whole_ok (h i d v hd (by simpa using hv))
theorem VRs.of_arr {G : Gh} {w : World} {cs : List AVal} {vs : Array Value} (hl : cs.length = vs.size) (h : ∀ (i : Nat) c v, cs[i]? = some c → vs[i]? = some v → VR G w c v) : VRs G w cs vs.toList :=
  ⟨by simpa using hl, fun i c v hc hv => h i c v hc (by simpa using hv)⟩
theorem ofValue_call (fn : Nat) (first cap vs : Array Value) (w : World) : ((do let d ← Deferred.ofValue (.func (.func fn) first cap) vs; invoke d.target d.args : Sem Next).run P w) = (callFunc fn (first ++ vs ++ cap)).run P w := rfl
theorem fold_params {nt : Nat} : ∀ (ps : List Nat) (args : List AVal) (vs : List Value) (f f1 : Tr AVal) (tmps : Array Value) {G : Gh} {w : World}, FR G w f tmps → (∀ p ∈ ps, p < tmps.size) → VRs G w args vs → roundArgs f ps args = some f1 → tmps.size = nt →
    FR G w f1 ((ps.zip vs).foldl (fun tmps (x : Nat × Value) => tmps.setIfInBounds x.1 x.2) tmps) ∧ ((ps.zip vs).foldl (fun tmps (x : Nat × Value) => tmps.setIfInBounds x.1 x.2) tmps).size = nt ∧ ps.length = vs.length
  | [], [], vs, f, f1, tmps, G, w, hf, _, hv, h, hs => by
    simp only [roundArgs, Option.some.injEq] at h
    subst h
    have : vs = [] := by
      have := hv.1
      simp at this
      exact List.eq_nil_of_length_eq_zero this.symm
    subst this
    exact ⟨hf, hs, rfl⟩
  | p :: ps, a :: args, [], f, f1, tmps, G, w, hf, _, hv, h, hs => by simp [VRs] at hv
  | p :: ps, a :: args, v :: vs, f, f1, tmps, G, w, hf, hp, hv, h, hs => by
    simp only [roundArgs] at h
    have hv0 := hv.2 0 a v rfl rfl
    have := fold_params (nt := nt) ps args vs (f.set p a) f1 (tmps.setIfInBounds p v) (hf.put (hp p List.mem_cons_self) hv0) (fun q hq => by simpa using hp q (List.mem_cons_of_mem _ hq))
      ⟨by have := hv.1; simpa using this, fun i c x hc hx => hv.2 (i + 1) c x (by simpa using hc) (by simpa using hx)⟩ h (by simpa using hs)
    refine ⟨this.1, this.2.1, by simp [this.2.2]⟩
  | [], _ :: _, _, _, _, _, _, _, _, _, _, h, _ => by cases h
  | _ :: _, [], _, _, _, _, _, _, _, _, _, h, _ => by cases h
end Go.AI

/- Rounds; the environment is sound. -/
namespace Go.AI
variable {P : Program}

theorem loop_at {E : Heap} {U pd : Nat → Option (List AVal)} {l : Tr (Nat × List AVal)} {s : ASt} {G : Gh} {w : World} (mr : MR P E U pd l s G w) {q b st : Nat} {pend : Option CC} {f : Tr AVal} {lo : Tr (Nat × List AVal)} {ps : List Nat} {x y : CC} (hb : G.bOf q = some b) (hq : assoc s.heap q = some (.loop st pend f lo ps x y)) :
    ∃ r, w.heap[b]? = some (.loop r) ∧ G.own b = .loc q ∧ LoopR P G w st pend f lo ps x y r := by
  rcases (mr.heap q _ hq).2 with e | ⟨b', h1, h2, r, h3, h4⟩
  · rw [hb] at e; cases e
  · rw [hb] at h1; cases h1; exact ⟨r, h3, h2, h4⟩
theorem loop_chg {E : Heap} {U pd : Nat → Option (List AVal)} {l : Tr (Nat × List AVal)} {s : ASt} {G : Gh} {w : World} (mr : MR P E U pd l s G w) {q b st st' : Nat} {pend pend' : Option CC} {f : Tr AVal} {lo : Tr (Nat × List AVal)} {ps : List Nat} {x y : CC} (hb : G.bOf q = some b) {r : Loop} (hr : w.heap[b]? = some (.loop r)) (ho : G.own b = .loc q) (hl : LoopR P G w st pend f lo ps x y r)
    {state : LoopState} {jump : Option Code} (hs : stR st' state) (hj : pendR pend' jump) {hp : Heap} (hset : assocSet s.heap q (.loop st' pend' f lo ps x y) = some hp) :
    Ext G w G { w with heap := w.heap.setIfInBounds b (.loop { r with state := state, pending := jump }) } ∧ MR P E U pd l { s with heap := hp } G { w with heap := w.heap.setIfInBounds b (.loop { r with state := state, pending := jump }) } := by
  have sw := Swap.setObj hr (.loop { r with state := state, pending := jump })
  have x := Ext.chg (G := G) sw (by rw [ho]; exact fun e => e) (by rw [ho]; intros; simp)
  exact mr.chgH sw hb ho hset (ob := .loop st' pend' f lo ps _ _) ⟨_, (MapKept.heap_set hr).1, hs, hj, hl.f_.ext x, hl.aw, hl.ps_, hl.psl, hl.l_, hl.code⟩

theorem yield_ok {CP : Nat → Option CF} (pk : ProgOK P CP) {n : Nat} (ih : ∀ E, SoundEnv P (mkEnv CP n E)) {E : Heap} {call : Nat → List AVal → ASt → Option (AVal × ASt)} {q : Nat} {args : List AVal} {s s' : ASt} {v : AVal} (h : applyV call (mkEnv CP n) n E (.yield q) args s = some (v, s')) {U pd : Nat → Option (List AVal)} {l : Tr (Nat × List AVal)} {G : Gh} {w : World} {u : Value} {vs : Array Value}
    (mr : MR P E U pd l s G w) (hu : VR G w (.yield q) u) (ha : VRs G w args vs.toList) : NextP P (EffP P E U pd G w l s' v) ((do let d ← Deferred.ofValue u vs; invoke d.target d.args : Sem Next).run P w) := by
  cases hu with | yield _ b hb =>
  unfold applyV at h
  simp only at h
  split at h <;> try (cases h; done)
  rename_i pend f lo ps aa bb hq
  obtain ⟨haw, h⟩ := cond_none h
  simp only [Option.bind_eq_some_iff] at h
  obtain ⟨f1, hf1, ⟨ex1, c1⟩, h1, h⟩ := h
  cases ex1 with
  | exit i => cases h
  | ret => cases h
  | normal =>
  simp only at h
  split at h <;> try (cases h; done)
  rename_i p2 f2 l2 ps2 a2 b2 hq1
  simp only [Option.bind_eq_some_iff] at h
  obtain ⟨hp, hset, ⟨ex2, c2⟩, h2, h⟩ := h
  unfold endRound at h
  simp only at h
  split at h <;> try (cases h; done)
  rename_i st3 p3 f3 l3 ps3 a3 b3 hq3
  simp only [Option.map_eq_some_iff, Prod.mk.injEq] at h
  obtain ⟨hp3, hset3, rfl, rfl⟩ := h
  obtain ⟨r, hr, ho, hL⟩ := loop_at mr hb hq
  -- the round's frame
  have mr0 := mr.sub (l0 := lo) hL.l_
  rw [← mkEnv_E CP n E] at mr0
  have hargs : VRs G.sub w args vs.toList := ⟨ha.1, fun i c x hc hx => moves_sub.atC (ha.2 i c x hc hx) (all_get haw hc)⟩
  have hfr : FR G.sub w f r.tmps := ⟨fun t => by
    rcases hL.aw t with e | e
    · exact moves_sub.at (hL.f_.1 t) e
    · rw [e]; exact .junk _, hL.f_.2⟩
  obtain ⟨k1, k2, k3⟩ := fold_params ps args vs.toList f f1 r.tmps hfr (fun p hp => hL.psl p hp) hargs hf1 rfl
  have hsz : vs.size = r.params.size := by
    rw [← hL.ps_] at k3
    simpa using k3.symm
  have hrun : (do let d ← Deferred.ofValue (.func (.yield b) #[] #[]) vs; invoke d.target d.args : Sem Next).run P w = .ok (.round b r.fn ((r.params.zip vs).foldl (fun tmps (t, a) => tmps.setIfInBounds t a) r.tmps) r.assign r.body) w := by
    have e1 : (do let d ← Deferred.ofValue (.func (.yield b) #[] #[]) vs; invoke d.target d.args : Sem Next).run P w = (Instr.yield b (#[] ++ vs)).run P w := rfl
    rw [e1]
    simp [Instr.yield, Instr.getLoop, getObj, Sem.run, hr, hsz]
  rw [hrun]
  have htm : (r.params.zip vs).foldl (fun tmps (t, a) => tmps.setIfInBounds t a) r.tmps = (ps.zip vs.toList).foldl (fun tmps (x : Nat × Value) => tmps.setIfInBounds x.1 x.2) r.tmps := by
    rw [← hL.ps_, ← Array.foldl_toList, Array.toList_zip]
  rw [htm]
  obtain ⟨lof, hca, hcb, hlof⟩ := hL.code
  have cr0 : CR P (mkEnv CP n E).E U lof r.tmps.size w.heap.size ⟨f1, lo, [], some q, s⟩ G.sub w { tmps := (ps.zip vs.toList).foldl (fun tmps (x : Nat × Value) => tmps.setIfInBounds x.1 x.2) r.tmps, defers := [] } := ⟨k1, k2, mr0, hlof, trivial, Nat.le_refl _⟩
  refine roundIn_of_wpIn (F := Fence.wide) trivial ?_
  refine code_ok (ro := some b) (ih E) pk.orders n r.assign hca cr0 hb h1 fun G1 a1 w1 x1 cr1 hrd1 => ?_
  -- the record is busy
  have hb1 := x1.bOf _ _ hb
  obtain ⟨r1, hr1, ho1, hL1⟩ := loop_at cr1.mr hb1 hq1
  have hready : r1.state = .ready := by
    have := hL1.st_
    cases hs : r1.state <;> rw [hs] at this <;> first | rfl | exact this.elim
  obtain ⟨x2, mr2⟩ := loop_chg cr1.mr hb1 hr1 ho1 hL1 (state := .busy) (jump := r1.pending) (st' := 1) trivial hL1.pend_ hset
  refine ⟨{ w1 with heap := w1.heap.setIfInBounds b (.loop { r1 with state := .busy, pending := r1.pending }) }, ?_, ?_⟩
  · simp [Instr.beginRound, Instr.getLoop, getObj, setObj, Sem.run, hr1, hready]
  have cr2 : CR P (mkEnv CP n E).E U lof r.tmps.size w.heap.size { c1 with s := { c1.s with heap := hp } } G1 { w1 with heap := w1.heap.setIfInBounds b (.loop { r1 with state := .busy, pending := r1.pending }) } a1 :=
    ⟨cr1.fr.ext x2, cr1.sz, mr2, cr1.lh, cr1.df.ext x2, Nat.le_trans cr1.bs x2.size⟩
  refine code_ok (ro := some b) (ih E) pk.orders n r.body hcb cr2 (by rw [show ({ c1 with s := { c1.s with heap := hp } } : Cfg).rd = some q from hrd1]; exact x2.bOf _ _ hb1) h2 fun G3 a3' w3 x3 cr3 hrd3 => ?_
  have hb3 := x3.bOf _ _ (x2.bOf _ _ hb1)
  obtain ⟨r3, hr3, ho3, hL3⟩ := loop_at cr3.mr hb3 hq3
  have hx := (x1.trans x2).trans x3
  have fin : ∀ (state : LoopState) (jump : Option Code), stR (stOf ex2) state → pendR (jumpOf ex2) jump → EffP P E U pd G w l { c2.s with heap := hp3 } (.p (.bool (goesOn ex2))) (.bool (goesOn ex2)) { w3 with heap := w3.heap.setIfInBounds b (.loop { r3 with state := state, pending := jump }) } := by
    intro state jump hs hj
    obtain ⟨x4, mr4⟩ := loop_chg cr3.mr hb3 hr3 ho3 hL3 hs hj hset3
    rw [mkEnv_E] at mr4
    exact eff_back mr (hx.trans x4) mr4 (.bool _) rfl
  cases ex2 with
  | normal =>
    refine ⟨.bool true, _, ?_, .bool true, rfl, fin .ready none trivial trivial⟩
    simp [Instr.endRound, Instr.getLoop, getObj, setObj, Sem.run, hr3]
  | ret =>
    refine ⟨.bool false, _, ?_, .bool false, rfl, fin .done (some .ret) trivial trivial⟩
    simp [Instr.endRound, Instr.getLoop, getObj, setObj, Sem.run, hr3]
  | exit i =>
    refine ⟨.bool false, _, ?_, .bool false, rfl, fin .done (some (.exit i)) trivial rfl⟩
    simp [Instr.endRound, Instr.getLoop, getObj, setObj, Sem.run, hr3]

/-- The environment is sound. -/
theorem env_ok {CP : Nat → Option CF} (pk : ProgOK P CP) : ∀ (n : Nat) (E : Heap), SoundEnv P (mkEnv CP n E)
  | 0, E => ⟨fun h => (by cases h), fun h => (by cases h), fun h => (by cases h), fun _ h => (by cases h)⟩
  | n + 1, E => by
    have ih := env_ok pk n
    have hcall : ∀ {f args s v s'}, applyF CP (mkEnv CP n) n E f args s = some (v, s') → ∀ {U pd l G w} {vs : Array Value}, MR P E U pd l s G w → VRs G w args vs.toList → (callFunc f vs).run P w = .ok (.enter f vs) w ∧ NextP P (EffP P E U pd G w l s' v) ((callFunc f vs).run P w) :=
      by intro f args s v s' h U pd l G w vs mr ha; exact applyF_ok pk ih h mr ha
    -- a value that is a function
    have hfun : ∀ {fv args s v s'}, applyV (applyF CP (mkEnv CP n) n E) (mkEnv CP n) n E fv args s = some (v, s') → isFn fv = true → ∀ {U pd l G w u} {vs : Array Value}, MR P E U pd l s G w → VR G w fv u → VRs G w args vs.toList →
        ∃ fn first cap, u = .func (.func fn) first cap ∧ (callFunc fn (first ++ vs ++ cap)).run P w = .ok (.enter fn (first ++ vs ++ cap)) w ∧ NextP P (EffP P E U pd G w l s' v) ((callFunc fn (first ++ vs ++ cap)).run P w) := by
      intro fv args s v s' h hf U pd l G w u vs mr hu ha
      cases fv with
      | p c =>
        cases c with
        | func fn x y =>
          cases hu with | p _ _ hu =>
          cases hu with | func _ _ _ first cap hl hm hx hy =>
          have hargs : VRs G w (x.map PVal.whole ++ (args ++ y.map PVal.whole)) (first ++ vs ++ cap).toList := by
            rw [Array.toList_append, Array.toList_append, List.append_assoc]
            exact (VRs.map_whole hl hx).append (ha.append (VRs.map_whole hm hy))
          exact ⟨fn, first, cap, rfl, hcall h mr hargs⟩
        | _ => cases hf
      | func fn x y =>
        cases hu with | func _ _ _ first cap hl hm hx hy =>
        have hargs : VRs G w (x ++ (args ++ y)) (first ++ vs ++ cap).toList := by
          rw [Array.toList_append, Array.toList_append, List.append_assoc]
          exact (VRs.of_arr hl hx).append (ha.append (VRs.of_arr hm hy))
        exact ⟨fn, first, cap, rfl, hcall h mr hargs⟩
      | _ => cases hf
    refine ⟨?_, ?_, ?_, ?_⟩
    · intro f args s v s' h U pd l G w vs mr ha
      exact (hcall h mr ha).2
    · intro fv args s v s' h U pd l G w u vs mr hu ha
      cases hf : isFn fv with
      | true =>
        obtain ⟨fn, first, cap, rfl, _, h2⟩ := hfun h hf mr hu ha
        rw [ofValue_call]
        exact h2
      | false =>
        have : ∃ q, fv = .yield q := by
          have h' : applyV (applyF CP (mkEnv CP n) n E) (mkEnv CP n) n E fv args s = some (v, s') := h
          unfold applyV at h'
          split at h'
          · cases hf
          · cases hf
          · exact ⟨_, rfl⟩
          · cases h'
        obtain ⟨q, rfl⟩ := this
        exact yield_ok (call := applyF CP (mkEnv CP n) n E) pk ih h mr hu ha
    · intro fv args s v s' h hf U pd l G w u vs mr hu ha
      obtain ⟨fn, first, cap, h1, h2, _⟩ := hfun h hf mr hu ha
      exact ⟨fn, first, cap, h1, h2⟩
    · intro f args s v s' hp h
      have hp' : isPureF CP f = true := hp
      have h' : applyF CP (mkEnv CP n) n E f args s = some (v, s') := h
      unfold isPureF at hp'
      unfold applyF at h'
      simp only [Option.bind_eq_some_iff] at h'
      obtain ⟨cf, hcf, h'⟩ := h'
      rw [hcf] at hp'
      simp only at hp'
      obtain ⟨_, h'⟩ := cond_none h'
      cases hcl : cf.clone && isNil0 (args.map erase) with
      | true =>
        rw [hcl] at h'
        simp only [cond_true, Option.bind_eq_some_iff] at h'
        obtain ⟨a, _, b, _, h'⟩ := h'
        obtain ⟨_, h'⟩ := cond_none h'
        simp only [Option.some.injEq, Prod.mk.injEq] at h'
        exact h'.2.symm
      | false =>
        rw [hcl, hp'] at h'
        simp only [cond_false, cond_true, Option.bind_eq_some_iff] at h'
        obtain ⟨u, _, h'⟩ := h'
        obtain ⟨_, h'⟩ := cond_none h'
        simp only [Option.some.injEq, Prod.mk.injEq] at h'
        exact h'.2.symm
end Go.AI
