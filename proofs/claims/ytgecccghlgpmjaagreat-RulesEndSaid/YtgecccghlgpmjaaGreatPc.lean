/- Part 3: an interpreter for the code of the model, proved sound. No condition. -/
import Derived.Test.YtgecccghlgpmjaaGreatPb
import Derived.ChangeArms
import Derived.ChangeSame
set_option linter.unusedVariables false
set_option linter.unusedSimpArgs false
namespace Go.AI
def qcc : CC → Bool
 | .seq a b => qcc a && qcc b
 | .cond _ a b => qcc a && qcc b
 | .block _ a => qcc a
 | .loop a => qcc a
 | .rangeFunc _ _ _ _ => false
 | _ => true
def Rd (cc : CC) (_ : Cfg) : Prop := qcc cc = true
theorem Rd.seq {a b : CC} {c : Cfg} (h : Rd (.seq a b) c) : Rd a c ∧ Rd b c := by
 simp only [Rd, qcc, Bool.and_eq_true] at h
 exact h
theorem Rd.cond {x : Arg} {a b : CC} {c : Cfg} (h : Rd (.cond x a b) c) : Rd a c ∧ Rd b c := by
 simp only [Rd, qcc, Bool.and_eq_true] at h
 exact h
theorem Rd.block {i : Nat} {a : CC} {c : Cfg} (h : Rd (.block i a) c) : Rd a c := h
theorem Rd.loop {a : CC} {c : Cfg} (h : Rd (.loop a) c) : Rd a c := h
theorem Rd.to {a : CC} {c c' : Cfg} (h : Rd a c) (_ : c'.rd = c.rd) : Rd a c' := h
theorem qbO {loc nt nl : Nat} {e : Env} {n : Nat} : ∀ (cc : CC) {nrm : Nat} {ex : List (Nat × Nat)} {rt : Nat} {F : FL} {L : LL} {h : HH} {c : Cfg} {k : KC} {r : AVal × ASt}, Rd cc c → AG nt F L h c → qeF loc nt nl e n cc nrm ex rt F L h c.s k = some r →
  ∃ x c' F' L' h', qbb e n cc c = some (x, c') ∧ KP (qhw loc cc) c c' ∧ AG nt F' L' h' c' ∧ k x F' L' h' c'.s = some r
 | .skip, nrm, ex, rt, F, L, h, c, k, r, rd, ag, hk => by
  simp only [qeF, qbp] at hk
  exact ⟨.normal, c, F, L, h, rfl, KP.refl _ _, ag, hk⟩
 | .reg ops, nrm, ex, rt, F, L, h, c, k, r, rd, ag, hk => by
  simp only [qeF, qbp] at hk
  cases hg : qgn ops with
  | true =>
   rw [hg] at hk
   simp only [cond_true] at hk
   obtain ⟨j, hj, hjn⟩ := qdW ag hk
   obtain ⟨cN, tr, F1, L1, trl, k1, k2, k3, k3', k4, k5, k6, k7, k8⟩ := qe3 ops ag (fun t ht => by rw [qe2] at ht; cases ht) hj
   obtain ⟨F2, L2, k9, k10⟩ := hjn k4 k6 k5
   exact ⟨.normal, cN, F2, L2, [], by rw [qbb, k1]; rfl, k6, k9, k10⟩
  | false =>
   rw [hg] at hk
   simp only [cond_false] at hk
   obtain ⟨cN, tr, F1, L1, trl, k1, k2, k3, k3', k4, k5, k6, k7, k8⟩ := qe3 ops ag (fun t ht => by rw [qe2] at ht; cases ht) hk
   exact ⟨.normal, cN, F1, L1, h, by rw [qbb, k1]; rfl, k6, k4, k5⟩
 | .regd pre hpre ops chk, nrm, ex, rt, F, L, h, c, k, r, rd, ag, hk => by
  simp only [qeF, qbp] at hk
  split at hk <;> try (cases hk; done)
  rename_i L0 hL0
  generalize hph : preH c.s hpre = sh at hk
  obtain ⟨s0, h0⟩ := sh
  simp only at hk
  obtain ⟨ag0, kp0⟩ := qs6 ag hL0 hph
  have e0 : qbb e n (.regd pre hpre ops chk) c = (qbU e ops { c with l := preL c.l pre, h := h0, s := s0 }).bind fun tr => match qck c tr with
   | last => cond (chk.all (qgV e tr last)) (some (.normal, last)) none := by
   rw [qbb, hph]
  have fin : ∀ {cN tr F1 L1 trl}, qbU e ops { c with l := preL c.l pre, h := h0, s := s0 } = some tr → (∀ d, qck d tr = cN) → AG nt F1 L1 h0 cN → TA trl tr → chk.all (okC e trl F1) = true → qbb e n (.regd pre hpre ops chk) c = some (.normal, cN) := by
   intro cN tr F1 L1 trl k2 k3 k4 k8 hc
   rw [e0, k2, Option.bind_some, k3]
   have : chk.all (qgV e tr cN) = true := by
    rw [List.all_eq_true] at hc ⊢
    exact fun q hq => qs5 k8 k4 (hc q hq)
   show cond (chk.all (qgV e tr cN)) (some (EX.normal, cN)) none = _
   rw [this, cond_true]
  cases hg : qgn ops with
  | true =>
   rw [hg] at hk
   simp only [cond_true] at hk
   obtain ⟨j, hj, hjn⟩ := qdW ag0 hk
   obtain ⟨cN, tr, F1, L1, trl, k1, k2, k3, k3', k4, k5, k6, k7, k8⟩ := qe3 ops ag0 (fun t ht => by rw [qe2] at ht; cases ht) hj
   obtain ⟨hc, k5⟩ := qap k5
   obtain ⟨F2, L2, k9, k10⟩ := hjn k4 k6 k5
   exact ⟨.normal, cN, F2, L2, [], fin k2 k3' k4 k8 hc, kp0.right.trans k6.left, k9, k10⟩
  | false =>
   rw [hg] at hk
   simp only [cond_false] at hk
   obtain ⟨cN, tr, F1, L1, trl, k1, k2, k3, k3', k4, k5, k6, k7, k8⟩ := qe3 ops ag0 (fun t ht => by rw [qe2] at ht; cases ht) hk
   obtain ⟨hc, k5⟩ := qap k5
   exact ⟨.normal, cN, F1, L1, h0, fin k2 k3' k4 k8 hc, kp0.right.trans k6.left, k4, k5⟩
 | .seq a b, nrm, ex, rt, F, L, h, c, k, r, rd, ag, hk => by
  simp only [qeF, qbp] at hk
  obtain ⟨x, c1, F1, L1, h1, k1, k2, k3, k4⟩ := qbO a rd.seq.1 ag hk
  cases x with
  | normal =>
   obtain ⟨y, c2, F2, L2, h2, k5, k6, k7, k8⟩ := qbO b (rd.seq.2.to k2.rd) k3 k4
   exact ⟨y, c2, F2, L2, h2, by rw [qbb, k1]; exact k5, k2.left.trans k6.right, k7, k8⟩
  | exit i => exact ⟨.exit i, c1, F1, L1, h1, by rw [qbb, k1]; rfl, k2.left, k3, k4⟩
  | ret => exact ⟨.ret, c1, F1, L1, h1, by rw [qbb, k1]; rfl, k2.left, k3, k4⟩
 | .cond x a b, nrm, ex, rt, F, L, h, c, k, r, rd, ag, hk => by
  simp only [qeF, qbp] at hk
  split at hk <;> try (cases hk; done)
  rename_i v hv
  have hx := qjD ag.f hv
  cases hf : (qeD a && qeD b) with
  | true =>
   rw [hf] at hk
   simp only [cond_true] at hk
   obtain ⟨j, hj, hjn⟩ := qdW ag hk
   unfold qad at hj
   split at hj <;> try (cases hj; done)
   rename_i t
   cases t with
   | true =>
    simp only [cond_true] at hj
    obtain ⟨y, c1, F1, L1, h1, k1, k2, k3, k4⟩ := qbO a rd.cond.1 ag hj
    cases y with
    | normal =>
     obtain ⟨F2, L2, k5, k6⟩ := hjn k3 k2.left k4
     exact ⟨.normal, c1, F2, L2, [], by rw [qbb, hx]; exact k1, k2.left, k5, k6⟩
    | exit i => exact ⟨.exit i, c1, F1, L1, h1, by rw [qbb, hx]; exact k1, k2.left, k3, k4⟩
    | ret => exact ⟨.ret, c1, F1, L1, h1, by rw [qbb, hx]; exact k1, k2.left, k3, k4⟩
   | false =>
    simp only [cond_false] at hj
    obtain ⟨y, c1, F1, L1, h1, k1, k2, k3, k4⟩ := qbO b rd.cond.2 ag hj
    cases y with
    | normal =>
     obtain ⟨F2, L2, k5, k6⟩ := hjn k3 k2.right k4
     exact ⟨.normal, c1, F2, L2, [], by rw [qbb, hx]; exact k1, k2.right, k5, k6⟩
    | exit i => exact ⟨.exit i, c1, F1, L1, h1, by rw [qbb, hx]; exact k1, k2.right, k3, k4⟩
    | ret => exact ⟨.ret, c1, F1, L1, h1, by rw [qbb, hx]; exact k1, k2.right, k3, k4⟩
  | false =>
   rw [hf] at hk
   simp only [cond_false] at hk
   unfold qad at hk
   split at hk <;> try (cases hk; done)
   rename_i t
   cases t with
   | true =>
    simp only [cond_true] at hk
    obtain ⟨y, c1, F1, L1, h1, k1, k2, k3, k4⟩ := qbO a rd.cond.1 ag hk
    exact ⟨y, c1, F1, L1, h1, by rw [qbb, hx]; exact k1, k2.left, k3, k4⟩
   | false =>
    simp only [cond_false] at hk
    obtain ⟨y, c1, F1, L1, h1, k1, k2, k3, k4⟩ := qbO b rd.cond.2 ag hk
    exact ⟨y, c1, F1, L1, h1, by rw [qbb, hx]; exact k1, k2.right, k3, k4⟩
 | .block id a, nrm, ex, rt, F, L, h, c, k, r, rd, ag, hk => by
  simp only [qeF, qbp] at hk
  cases hf : Nat.blt 1 (exN id a + cond (qeD a) 1 0) with
  | true =>
   rw [hf] at hk
   simp only [cond_true] at hk
   obtain ⟨j, hj, hjn⟩ := qdW ag hk
   obtain ⟨y, c1, F1, L1, h1, k1, k2, k3, k4⟩ := qbO a rd.block ag hj
   cases y with
   | normal =>
    obtain ⟨F2, L2, k5, k6⟩ := hjn k3 k2 k4
    exact ⟨.normal, c1, F2, L2, [], by rw [qbb, k1]; rfl, k2, k5, k6⟩
   | exit i =>
    simp only at k4
    cases hi : Nat.beq i id with
    | true =>
     rw [hi] at k4
     obtain ⟨F2, L2, k5, k6⟩ := hjn k3 k2 k4
     exact ⟨.normal, c1, F2, L2, [], by rw [qbb, k1]; simp only [Option.map_some, hi, cond_true], k2, k5, k6⟩
    | false =>
     rw [hi] at k4
     exact ⟨.exit i, c1, F1, L1, h1, by rw [qbb, k1]; simp only [Option.map_some, hi, cond_false], k2, k3, k4⟩
   | ret => exact ⟨.ret, c1, F1, L1, h1, by rw [qbb, k1]; rfl, k2, k3, k4⟩
  | false =>
   rw [hf] at hk
   simp only [cond_false] at hk
   obtain ⟨y, c1, F1, L1, h1, k1, k2, k3, k4⟩ := qbO a rd.block ag hk
   cases y with
   | normal => exact ⟨.normal, c1, F1, L1, h1, by rw [qbb, k1]; rfl, k2, k3, k4⟩
   | exit i =>
    simp only at k4
    cases hi : Nat.beq i id with
    | true =>
     rw [hi] at k4
     exact ⟨.normal, c1, F1, L1, h1, by rw [qbb, k1]; simp only [Option.map_some, hi, cond_true], k2, k3, k4⟩
    | false =>
     rw [hi] at k4
     exact ⟨.exit i, c1, F1, L1, h1, by rw [qbb, k1]; simp only [Option.map_some, hi, cond_false], k2, k3, k4⟩
   | ret => exact ⟨.ret, c1, F1, L1, h1, by rw [qbb, k1]; rfl, k2, k3, k4⟩
 | .loop a, nrm, ex, rt, F, L, h, c, k, r, rd, ag, hk => by
  simp only [qeF, qbp] at hk
  obtain ⟨x, c', k1, k2, k3, F2, L2, h2, k4, k5⟩ := qpQ (e := e) (a := a) (k := k) ag hk (by
   intro F1 L1 c1 j ag1 kp hj
   obtain ⟨y, c2, F2, L2, h2, m1, m2, m3, m4⟩ := qbO a (rd.loop.to kp.rd) ag1 hj
   refine ⟨y, c2, F2, L2, h2, m1, m2, m3, ?_⟩
   cases y with
   | normal => exact .inl ⟨rfl, m4⟩
   | exit i => exact .inr ⟨(fun e => by cases e), m4⟩
   | ret => exact .inr ⟨(fun e => by cases e), m4⟩)
  exact ⟨x, c', F2, L2, h2, by rw [qbb]; exact k1, k2, k4, k5⟩
 | .rangeFunc f ps a b, nrm, ex, rt, F, L, h, c, k, r, rd, ag, hk => nomatch rd
 | .exit id, nrm, ex, rt, F, L, h, c, k, r, rd, ag, hk => by
  simp only [qeF, qbp] at hk
  exact ⟨.exit id, c, F, L, h, rfl, KP.refl _ _, ag, hk⟩
 | .ret, nrm, ex, rt, F, L, h, c, k, r, rd, ag, hk => by
  simp only [qeF, qbp] at hk
  exact ⟨.ret, c, F, L, h, rfl, KP.refl _ _, ag, hk⟩
 | .bad, nrm, ex, rt, F, L, h, c, k, r, rd, ag, hk => by
  simp only [qeF, qbp] at hk; cases hk
theorem qpR (v : AVal) : qbS (qbS v) = qbS v := by cases v <;> rfl
theorem qlQ (v : AVal) : qcj (qcj v) = qcj v := by
 cases v <;> try rfl
 case agg cs =>
  simp only [qcj, List.map_map, AVal.agg.injEq]
  exact List.map_congr_left fun v _ => qpR v
theorem qs7 (v : AVal) : qaA (qaA v) = qaA v := by
 cases v <;> try rfl
 case agg cs => exact qlQ (.agg cs)
 case tuple vs =>
  simp only [qaA, List.map_map, AVal.tuple.injEq]
  exact List.map_congr_left fun v _ => qlQ v
def Ans (v : AVal) (r : Res) : Prop := ∃ v' s, r = some (v', s) ∧ qaA v' = qaA v
theorem Ans.of {v w : AVal} {r : Res} (h : Ans w r) (e : qaA w = qaA v) : Ans v r := by
 obtain ⟨v', s, h1, h2⟩ := h
 exact ⟨v', s, h1, h2.trans e⟩
theorem qjH {e : Env} {n : Nat} {a : CC} {nt : Nat} {ef : Ef} {k : KC} {v : AVal} {T : Type} {base : Cfg} {z : T} {f : T → T} {enter : T → Cfg → Res}
  (hz : ∀ c r', enter z c ≠ some r')
  (hf : ∀ ih c, KP ef base c → Ans v (enter (f ih) c) → ∃ x c', qbb e n a c = some (x, c') ∧ KP ef base c' ∧ ((x = .normal ∧ Ans v (enter ih c')) ∨ (x ≠ .normal ∧ ∃ F L h, AG nt F L h c' ∧ Ans v (k x F L h c'.s)))) :
  ∀ m c, KP ef base c → Ans v (enter (lp z f m) c) → ∃ x c', qeV m (qbb e n a) c = some (x, c') ∧ KP ef base c' ∧ x ≠ .normal ∧ ∃ F L h, AG nt F L h c' ∧ Ans v (k x F L h c'.s)
 | 0, c, _, ⟨_, _, h, _⟩ => absurd h (hz c _)
 | m + 1, c, kp, h => by
  obtain ⟨x, c', h1, h2, h3⟩ := hf (lp z f m) c kp h
  have e1 : qeV (m + 1) (qbb e n a) c = (qbb e n a c).bind fun r => match r with
   | (.normal, c) => qeV m (qbb e n a) c
   | r => some r := rfl
  rw [e1, h1]
  rcases h3 with ⟨rfl, h4⟩ | ⟨hx, h4⟩
  ·exact qjH hz hf m c' h2 h4
  ·cases x with
   | normal => exact absurd rfl hx
   | exit i => exact ⟨.exit i, c', rfl, h2, hx, h4⟩
   | ret => exact ⟨.ret, c', rfl, h2, hx, h4⟩
theorem qnX {nt nl n : Nat} {ef : Ef} {lv : Nat} {F : FL} {L : LL} {h : HH} {c : Cfg} {body : FL → LL → ASt → KN → Res} {v : AVal} {s0 : ASt} {e : Env} {a : CC} {k : KC} (ag : AG nt F L h c) (hk : qnS nt nl n ef lv F L c.s body = some (v, s0))
  (hb : ∀ {F1 L1 c1} {j : KN} {v1 : AVal} {s1 : ASt}, AG nt F1 L1 [] c1 → KP ef c c1 → body F1 L1 c1.s j = some (v1, s1) → qaA v1 = qaA v → ∃ x c' F2 L2 h2, qbb e n a c1 = some (x, c') ∧ KP ef c1 c' ∧ AG nt F2 L2 h2 c' ∧ ((x = .normal ∧ Ans v (j F2 L2 h2 c'.s)) ∨ (x ≠ .normal ∧ Ans v (k x F2 L2 h2 c'.s)))) :
  ∃ x c', qeV n (qbb e n a) c = some (x, c') ∧ KP ef c c' ∧ x ≠ .normal ∧ ∃ F2 L2 h2, AG nt F2 L2 h2 c' ∧ Ans v (k x F2 L2 h2 c'.s) := by
 unfold qnS at hk
 simp only at hk
 generalize hvs : qa1 (Nat.land lv ef.d) 0 nt = vs at hk
 generalize hgl : qa1 ef.al 0 nl = gl at hk
 generalize hcl : cond ef.st (qa1 (qqv (L.map fun x => (x.1, []))) 0 nl) gl = cl at hk
 generalize hF0 : qg3 (qfy lv ef.d) F (qa1 lv 0 nt) = F0 at hk
 split at hk <;> try (cases hk; done)
 rename_i xs hx
 split at hk <;> try (cases hk; done)
 rename_i gs hg
 split at hk <;> try (cases hk; done)
 rename_i cs hc
 let enter : Fn AVal vs.length (Fn Nat gl.length (Fn (List AVal) cl.length (FnS ef.cs Res))) → Cfg → Res := fun f c1 =>
  match (vs.map fun t => c1.f.get qai t, gl.map fun i => (c1.l.get (0, []) i).1, cl.map fun i => (c1.l.get (0, []) i).2) with
  | (xs, gs, cs) => qqw ef.cs (qfA [] cl.length (qfA 0 gl.length (qfA qai vs.length f xs) gs) cs) c1.s
 have same : ∀ {F1 L1 h1 c1 xs gs cs}, AG nt F1 L1 h1 c1 → qks F1 vs = some xs → qjz L1 gl = some gs → qjA L1 cl = some cs → ∀ f, qqw ef.cs (qfA [] cl.length (qfA 0 gl.length (qfA qai vs.length f xs) gs) cs) c1.s = enter f c1 := by
  intro F1 L1 h1 c1 xs gs cs ag1 h1 h2 h3 f
  have e1 := qia (g := fun t => c1.f.get qai t) ag1.f h1
  have e2 := qib (g := fun i => c1.l.get (0, []) i) (fun i p hi => (ag1.l i p hi).1) h2
  have e3 := qic (g := fun i => c1.l.get (0, []) i) (fun i p hi => (ag1.l i p hi).1) h3
  subst e1; subst e2; subst e3
  rfl
 rw [same ag hx hg hc] at hk
 have head : ∀ {c1}, KP ef c c1 → ∃ xs' gs' cs', xs' = vs.map (fun t => c1.f.get qai t) ∧ gs' = gl.map (fun i => (c1.l.get (0, []) i).1) ∧ cs' = cl.map (fun i => (c1.l.get (0, []) i).2) ∧
   AG nt (qqx vs xs' F0) (qnR L ef.al (qqy gl gs') cl cs' ++ cond ef.st [] (qh8 ef.al L)) [] c1 := by
  intro c1 kp
  refine ⟨_, _, _, rfl, rfl, rfl, ?_⟩
  subst hF0
  refine qkD (F1 := vs.map fun t => (t, c1.f.get qai t)) (L1 := L.map fun p => (p.1, c1.l.get (0, []) p.1)) (h1 := []) ag ⟨fun t v hv => qc5 _ hv, fun i p hp => ?_, fun d l hd => (by cases hd), fun t ht => by rw [kp.hf]; exact ag.hf t ht⟩ kp
   (qif fun t ht => qdo _ ht) (qig fun t ht => ?_) (qih fun t ht => ?_)
  ·obtain ⟨⟨q, hq⟩, e⟩ := qel _ hp
   exact ⟨e.symm, by rw [kp.hl]; exact (ag.l i q hq).2⟩
  ·obtain ⟨p, hp⟩ := qid hg t ht
   exact qcN (fun i => c1.l.get (0, []) i) hp
  ·obtain ⟨p, hp⟩ := qie hc t ht
   exact qcN (fun i => c1.l.get (0, []) i) hp
 refine qjH (z := _) (f := _) (enter := enter) ?_ ?_ n c (KP.refl _ _) ⟨v, s0, hk, rfl⟩
 ·intro c1 r' h
  simp only [enter] at h
  rw [qbi _ _ _ _ (by simp), qbi _ _ _ _ (by simp), qbi _ _ _ _ (by simp)] at h
  cases hs : ef.cs with
  | true => rw [hs] at h; cases h
  | false => rw [hs] at h; cases h
 ·intro ih c1 kp ⟨v1, s1, h, hv1⟩
  obtain ⟨xs', gs', cs', e1, e2, e3, ag1⟩ := head kp
  simp only [enter] at h
  rw [← e1, ← e2, ← e3, qbi _ _ _ _ (by rw [e1]; simp), qbi _ _ _ _ (by rw [e2]; simp), qbi _ _ _ _ (by rw [e3]; simp), qgp kp] at h
  obtain ⟨x, c', F2, L2, h2, k1, k2, k3, k4⟩ := hb ag1 kp h hv1
  refine ⟨x, c', k1, kp.trans k2, ?_⟩
  rcases k4 with ⟨rfl, v3, s3, k4, hv3⟩ | ⟨hx', k4⟩
  ·left
   refine ⟨rfl, v3, s3, ?_, hv3⟩
   split at k4 <;> try (cases k4; done)
   rename_i ys hy
   split at k4 <;> try (cases k4; done)
   rename_i zs hz
   split at k4 <;> try (cases k4; done)
   rename_i ws hw
   rw [same k3 hy hz hw] at k4
   exact k4
  ·exact .inr ⟨hx', F2, L2, h2, k3, k4⟩
theorem qcs {loc nt nl : Nat} {e : Env} {n : Nat} : ∀ (cc : CC) {nrm : Nat} {ex : List (Nat × Nat)} {rt : Nat} {F : FL} {L : LL} {h : HH} {c : Cfg} {k : KC} {v : AVal} {s0 : ASt}, c.rd = none → AG nt F L h c → qeF loc nt nl e n cc nrm ex rt F L h c.s k = some (v, s0) →
  ∃ x c' F' L' h', qbb e n cc c = some (x, c') ∧ KP (qhw loc cc) c c' ∧ AG nt F' L' h' c' ∧ Ans v (k x F' L' h' c'.s)
 | .skip, nrm, ex, rt, F, L, h, c, k, v, s0, rd, ag, hk => by
  obtain ⟨x, c', F', L', h', e1, e2, e3, e4⟩ := qbO (.skip) rfl ag hk
  exact ⟨x, c', F', L', h', e1, e2, e3, ⟨v, s0, e4, rfl⟩⟩
 | .reg ops, nrm, ex, rt, F, L, h, c, k, v, s0, rd, ag, hk => by
  obtain ⟨x, c', F', L', h', e1, e2, e3, e4⟩ := qbO (.reg ops) rfl ag hk
  exact ⟨x, c', F', L', h', e1, e2, e3, ⟨v, s0, e4, rfl⟩⟩
 | .regd pre hpre ops chk, nrm, ex, rt, F, L, h, c, k, v, s0, rd, ag, hk => by
  obtain ⟨x, c', F', L', h', e1, e2, e3, e4⟩ := qbO (.regd pre hpre ops chk) rfl ag hk
  exact ⟨x, c', F', L', h', e1, e2, e3, ⟨v, s0, e4, rfl⟩⟩
 | .seq a b, nrm, ex, rt, F, L, h, c, k, v, s0, rd, ag, hk => by
  simp only [qeF, qbp] at hk
  obtain ⟨x, c1, F1, L1, h1, k1, k2, k3, ⟨v1, s1, k4, e4⟩⟩ := qcs a rd ag hk
  cases x with
  | normal =>
   obtain ⟨y, c2, F2, L2, h2, k5, k6, k7, k8⟩ := qcs b (k2.rd.trans rd) k3 k4
   exact ⟨y, c2, F2, L2, h2, by rw [qbb, k1]; exact k5, k2.left.trans k6.right, k7, k8.of e4⟩
  | exit i => exact ⟨.exit i, c1, F1, L1, h1, by rw [qbb, k1]; rfl, k2.left, k3, ⟨v1, s1, k4, e4⟩⟩
  | ret => exact ⟨.ret, c1, F1, L1, h1, by rw [qbb, k1]; rfl, k2.left, k3, ⟨v1, s1, k4, e4⟩⟩
 | .cond x a b, nrm, ex, rt, F, L, h, c, k, v, s0, rd, ag, hk => by
  simp only [qeF, qbp] at hk
  split at hk <;> try (cases hk; done)
  rename_i u hv
  have hx := qjD ag.f hv
  cases hf : (qeD a && qeD b) with
  | true =>
   rw [hf] at hk
   simp only [cond_true] at hk
   obtain ⟨j, hj, hjn⟩ := qdW ag hk
   unfold qad at hj
   split at hj <;> try (cases hj; done)
   rename_i t
   cases t with
   | true =>
    simp only [cond_true] at hj
    obtain ⟨y, c1, F1, L1, h1, k1, k2, k3, ⟨v1, s1, k4, e4⟩⟩ := qcs a rd ag hj
    cases y with
    | normal =>
     obtain ⟨F2, L2, k5, k6⟩ := hjn k3 k2.left k4
     exact ⟨.normal, c1, F2, L2, [], by rw [qbb, hx]; exact k1, k2.left, k5, ⟨v1, s1, k6, e4⟩⟩
    | exit i => exact ⟨.exit i, c1, F1, L1, h1, by rw [qbb, hx]; exact k1, k2.left, k3, ⟨v1, s1, k4, e4⟩⟩
    | ret => exact ⟨.ret, c1, F1, L1, h1, by rw [qbb, hx]; exact k1, k2.left, k3, ⟨v1, s1, k4, e4⟩⟩
   | false =>
    simp only [cond_false] at hj
    obtain ⟨y, c1, F1, L1, h1, k1, k2, k3, ⟨v1, s1, k4, e4⟩⟩ := qcs b rd ag hj
    cases y with
    | normal =>
     obtain ⟨F2, L2, k5, k6⟩ := hjn k3 k2.right k4
     exact ⟨.normal, c1, F2, L2, [], by rw [qbb, hx]; exact k1, k2.right, k5, ⟨v1, s1, k6, e4⟩⟩
    | exit i => exact ⟨.exit i, c1, F1, L1, h1, by rw [qbb, hx]; exact k1, k2.right, k3, ⟨v1, s1, k4, e4⟩⟩
    | ret => exact ⟨.ret, c1, F1, L1, h1, by rw [qbb, hx]; exact k1, k2.right, k3, ⟨v1, s1, k4, e4⟩⟩
  | false =>
   rw [hf] at hk
   simp only [cond_false] at hk
   unfold qad at hk
   split at hk <;> try (cases hk; done)
   rename_i t
   cases t with
   | true =>
    simp only [cond_true] at hk
    obtain ⟨y, c1, F1, L1, h1, k1, k2, k3, ⟨v1, s1, k4, e4⟩⟩ := qcs a rd ag hk
    exact ⟨y, c1, F1, L1, h1, by rw [qbb, hx]; exact k1, k2.left, k3, ⟨v1, s1, k4, e4⟩⟩
   | false =>
    simp only [cond_false] at hk
    obtain ⟨y, c1, F1, L1, h1, k1, k2, k3, ⟨v1, s1, k4, e4⟩⟩ := qcs b rd ag hk
    exact ⟨y, c1, F1, L1, h1, by rw [qbb, hx]; exact k1, k2.right, k3, ⟨v1, s1, k4, e4⟩⟩
 | .block id a, nrm, ex, rt, F, L, h, c, k, v, s0, rd, ag, hk => by
  simp only [qeF, qbp] at hk
  cases hf : Nat.blt 1 (exN id a + cond (qeD a) 1 0) with
  | true =>
   rw [hf] at hk
   simp only [cond_true] at hk
   obtain ⟨j, hj, hjn⟩ := qdW ag hk
   obtain ⟨y, c1, F1, L1, h1, k1, k2, k3, ⟨v1, s1, k4, e4⟩⟩ := qcs a rd ag hj
   cases y with
   | normal =>
    obtain ⟨F2, L2, k5, k6⟩ := hjn k3 k2 k4
    exact ⟨.normal, c1, F2, L2, [], by rw [qbb, k1]; rfl, k2, k5, ⟨v1, s1, k6, e4⟩⟩
   | exit i =>
    simp only at k4
    cases hi : Nat.beq i id with
    | true =>
     rw [hi] at k4
     obtain ⟨F2, L2, k5, k6⟩ := hjn k3 k2 k4
     exact ⟨.normal, c1, F2, L2, [], by rw [qbb, k1]; simp only [Option.map_some, hi, cond_true], k2, k5, ⟨v1, s1, k6, e4⟩⟩
    | false =>
     rw [hi] at k4
     exact ⟨.exit i, c1, F1, L1, h1, by rw [qbb, k1]; simp only [Option.map_some, hi, cond_false], k2, k3, ⟨v1, s1, k4, e4⟩⟩
   | ret => exact ⟨.ret, c1, F1, L1, h1, by rw [qbb, k1]; rfl, k2, k3, ⟨v1, s1, k4, e4⟩⟩
  | false =>
   rw [hf] at hk
   simp only [cond_false] at hk
   obtain ⟨y, c1, F1, L1, h1, k1, k2, k3, ⟨v1, s1, k4, e4⟩⟩ := qcs a rd ag hk
   cases y with
   | normal => exact ⟨.normal, c1, F1, L1, h1, by rw [qbb, k1]; rfl, k2, k3, ⟨v1, s1, k4, e4⟩⟩
   | exit i =>
    simp only at k4
    cases hi : Nat.beq i id with
    | true =>
     rw [hi] at k4
     exact ⟨.normal, c1, F1, L1, h1, by rw [qbb, k1]; simp only [Option.map_some, hi, cond_true], k2, k3, ⟨v1, s1, k4, e4⟩⟩
    | false =>
     rw [hi] at k4
     exact ⟨.exit i, c1, F1, L1, h1, by rw [qbb, k1]; simp only [Option.map_some, hi, cond_false], k2, k3, ⟨v1, s1, k4, e4⟩⟩
   | ret => exact ⟨.ret, c1, F1, L1, h1, by rw [qbb, k1]; rfl, k2, k3, ⟨v1, s1, k4, e4⟩⟩
 | .loop a, nrm, ex, rt, F, L, h, c, k, v, s0, rd, ag, hk => by
  simp only [qeF, qbp] at hk
  obtain ⟨x, c', k1, k2, k3, F2, L2, h2, k4, k5⟩ := qnX (e := e) (a := a) (k := k) ag hk (by
   intro F1 L1 c1 j v1 s1 ag1 kp hj hv1
   obtain ⟨y, c2, F2, L2, h2, m1, m2, m3, m4⟩ := qcs a (kp.rd.trans rd) ag1 hj
   have m4 := m4.of hv1
   refine ⟨y, c2, F2, L2, h2, m1, m2, m3, ?_⟩
   cases y with
   | normal => exact .inl ⟨rfl, m4⟩
   | exit i => exact .inr ⟨(fun e => by cases e), m4⟩
   | ret => exact .inr ⟨(fun e => by cases e), m4⟩)
  exact ⟨x, c', F2, L2, h2, by rw [qbb]; exact k1, k2, k4, k5⟩
 | .rangeFunc f ps a b, nrm, ex, rt, F, L, h, c, k, v, s0, rd, ag, hk => by
  simp only [qeF] at hk
  split at hk <;> try (cases hk; done)
  rename_i u hv
  have hx := qjD ag.f hv
  unfold rfK at hk
  split at hk
  ·rename_i hex
   simp only [Option.some.injEq, Prod.mk.injEq] at hk
   have hsp := hex.choose_spec
   rw [hk.1] at hsp
   obtain ⟨x, s', s2, r', hrun, her, hm⟩ := hsp c f ag.f (fun i p hp => (ag.l i p hp).2) ag.hf hx rfl rd
   have hver : qaA r' = v → qaA r' = qaA v := fun h => by rw [← h, qs7]
   have hkp : KP (qhw loc (.rangeFunc f ps a b)) c { c with s := s' } := ⟨fun _ _ => rfl, fun _ _ => rfl, fun _ _ _ => rfl, fun h => (by cases h), rfl, fun _ => rfl, fun _ => rfl⟩
   have hag : AG nt F L h { c with s := s' } := ⟨ag.f, ag.l, ag.h, ag.hf⟩
   cases x with
   | normal => exact ⟨.normal, { c with s := s' }, F, L, h, hrun, hkp, hag, ⟨r', s2, hm, hver her⟩⟩
   | exit i =>
    obtain ⟨rfl, hm⟩ := hm
    exact ⟨.exit (exB b), { c with s := s' }, F, L, h, hrun, hkp, hag, ⟨r', s2, hm, hver her⟩⟩
   | ret => exact ⟨.ret, { c with s := s' }, F, L, h, hrun, hkp, hag, ⟨r', s2, hm, hver her⟩⟩
  ·cases hk
 | .exit id, nrm, ex, rt, F, L, h, c, k, v, s0, rd, ag, hk => by
  obtain ⟨x, c', F', L', h', e1, e2, e3, e4⟩ := qbO (.exit id) rfl ag hk
  exact ⟨x, c', F', L', h', e1, e2, e3, ⟨v, s0, e4, rfl⟩⟩
 | .ret, nrm, ex, rt, F, L, h, c, k, v, s0, rd, ag, hk => by
  obtain ⟨x, c', F', L', h', e1, e2, e3, e4⟩ := qbO (.ret) rfl ag hk
  exact ⟨x, c', F', L', h', e1, e2, e3, ⟨v, s0, e4, rfl⟩⟩
 | .bad, nrm, ex, rt, F, L, h, c, k, v, s0, rd, ag, hk => by cases hk
theorem qs8 {cs : List AVal} {off : Nat} {n : Option Nat} {v : AVal} (h : ldL cs off n = some v) : ∃ ds, cut cs off (cnt n) = some ds ∧ AVal.ofCells n ds = some v := by
 unfold ldL at h
 cases n with
 | none =>
  simp only at h
  split at h <;> try (cases h; done)
  rename_i w hw
  exact ⟨[w], hw, h⟩
 | some m =>
  simp only at h
  split at h <;> try (cases h; done)
  rename_i w hw
  exact ⟨w, hw, h⟩
theorem qhy {loc nt : Nat} {e : Env} {F : FL} {L : LL} {h : HH} {c : Cfg} (ag : AG nt F L h c) : ∀ (rs : List RV) {k : List AVal → Res} {r : AVal × ASt}, rvK loc e F L c.s rs k = some r → ∃ l, rvs e c rs = some l ∧ k l = some r
 | [], k, r, hk => ⟨[], rfl, hk⟩
 | .t n :: rs, k, r, hk => by
  simp only [rvK, qbp] at hk
  split at hk <;> try (cases hk; done)
  rename_i v hv
  obtain ⟨l, h1, h2⟩ := qhy ag rs hk
  exact ⟨v :: l, by rw [rvs, h1, ag.f n v hv]; rfl, h2⟩
 | .l a n :: rs, k, r, hk => by
  simp only [rvK, qbp] at hk
  split at hk <;> try (cases hk; done)
  rename_i v hv
  have hav := ag.f a v hv
  have fin : ∀ {u}, (loadFrom e.E c.l c.s v (cnt n)).bind (AVal.ofCells n) = some u → rvK loc e F L c.s rs (fun l => k (u :: l)) = some r → ∃ l, rvs e c (.l a n :: rs) = some l ∧ k l = some r := by
   intro u hu hk
   obtain ⟨l, h1, h2⟩ := qhy ag rs hk
   refine ⟨u :: l, ?_, h2⟩
   simp only [Option.bind_eq_some_iff] at hu
   obtain ⟨cs, hcs, hu⟩ := hu
   rw [rvs, hav, hcs, Option.bind_some, hu, Option.bind_some, h1]
   rfl
  cases hl : tb loc a with
  | true =>
   rw [hl] at hk
   simp only [cond_true] at hk
   split at hk <;> try (cases hk; done)
   rename_i i g off
   split at hk <;> try (cases hk; done)
   rename_i p hp
   obtain ⟨hg, hk⟩ := qap hk
   simp only [Option.bind_eq_some_iff] at hk
   obtain ⟨u, hu, hk⟩ := hk
   obtain ⟨ds, h1, h2⟩ := qs8 hu
   refine fin ?_ hk
   simp only [loadFrom, (ag.l i p hp).1, hg, cond_true, h1, Option.bind_some, h2]
  | false =>
   rw [hl] at hk
   simp only [cond_false, Option.bind_eq_some_iff] at hk
   obtain ⟨u, hu, hk⟩ := hk
   refine fin ?_ hk
   unfold ldH at hu
   split at hu <;> try (cases hu; done)
   ·rename_i l off
    split at hu <;> try (cases hu; done)
    rename_i cs hcs
    rw [show loadFrom e.E c.l c.s (.ptr l off) (cnt n) = some cs from hcs]
    exact hu
   ·rename_i l off
    split at hu <;> try (cases hu; done)
    rename_i cs hcs
    rw [show loadFrom e.E c.l c.s (.elem l off) (cnt n) = some cs from hcs]
    exact hu
theorem qem (d : Nat) : ∀ (args : List AVal) (f : Tr AVal) (i : Nat), (∀ j, j < i + args.length → f.has j = true) → (∀ t v, qam (qsu i args) t = some v → (qbk f i args).get qai t = v) ∧ (∀ t, t < i → (qbk f i args).get qai t = f.get qai t) ∧ ∀ t, (qbk f i args).has t = f.has t
 | [], f, i, _ => ⟨fun t v h => (by cases h), fun _ _ => rfl, fun _ => rfl⟩
 | v :: r, f, i, hh => by
  obtain ⟨h1, h2, h3⟩ := qem d r (f.set i v) (i + 1) fun j hj => by
   rw [Tr.has_set]
   exact hh j (by simp only [List.length_cons]; omega)
  refine ⟨fun t x hx => ?_, fun t ht => ?_, fun t => ?_⟩
  ·simp only [qsu] at hx
   rw [qak] at hx
   split at hx
   ·rename_i e
    simp only [Option.some.injEq] at hx
    subst e; subst hx
    show (qbk (f.set i v) (i + 1) r).get qai i = v
    rw [h2 i (by omega)]
    exact Tr.get_set_eq _ _ _ _ (hh i (by simp only [List.length_cons]; omega))
   ·exact h1 t x hx
  ·show (qbk (f.set i v) (i + 1) r).get qai t = _
   rw [h2 t (by omega), Tr.get_set_ne _ _ _ _ _ (by omega)]
  ·show (qbk (f.set i v) (i + 1) r).has t = _
   rw [h3, Tr.has_set]
theorem qen {m : Nat} : ∀ {k i x : Nat}, x ∈ qa1 m i k → x < i + k
 | 0, i, x, h => by cases h
 | k + 1, i, x, h => by
  simp only [qa1] at h
  cases hb : tb m i with
  | true =>
   rw [hb] at h
   rcases List.mem_cons.1 h with h | h
   ·omega
   ·have := qen h; omega
  | false =>
   rw [hb] at h
   have := qen h; omega
theorem qhz {al k : Nat} {i : Nat} {p : Nat × List AVal} (h : qam ((qa1 al 0 k).map fun i => (i, ((0, []) : Nat × List AVal))) i = some p) : p = (0, []) ∧ i < k := by
 have : ∀ (us : List Nat), qam (us.map fun i => (i, ((0, []) : Nat × List AVal))) i = some p → p = (0, []) ∧ i ∈ us := by
  intro us hu
  induction us with
  | nil => cases hu
  | cons u r ih =>
   rw [List.map_cons, qak] at hu
   split at hu
   ·rename_i e
    simp only [Option.some.injEq] at hu
    exact ⟨hu.symm, by rw [← e]; exact List.mem_cons_self ..⟩
   ·obtain ⟨h1, h2⟩ := ih hu
    exact ⟨h1, List.mem_cons_of_mem _ h2⟩
 obtain ⟨h1, h2⟩ := this _ h
 have := qen h2
 exact ⟨h1, by omega⟩
theorem qii {cf : CF} {e : Env} {n : Nat} {args : List AVal} {s s' : ASt} {v : AVal} (hrf : qcc cf.body = true) (hn : args.length < 2 ^ cf.depth) (h : qat cf e n args s = some (v, s')) :
  ∃ r, qbb e n cf.body ⟨qbk (Tr.mk qai cf.depth) 0 args, Tr.mk (0, []) cf.ldepth, [], none, s⟩ = some r ∧ qfx e cf r = some v ∧ r.2.s = s' := by
 unfold qat at h
 have hm : ∀ j, j < 2 ^ cf.depth - 1 → (Tr.mk qai cf.depth).has j = true := fun j hj => Tr.has_mk _ _ _ (by omega)
 obtain ⟨k1, k2, k3⟩ := qem 0 args (Tr.mk qai cf.depth) 0 fun j hj => hm j (by omega)
 let c0 : Cfg := ⟨qbk (Tr.mk qai cf.depth) 0 args, Tr.mk (0, []) cf.ldepth, [], none, s⟩
 have ag : AG (2 ^ cf.depth - 1) (qsu 0 args) ((qa1 (qhw (qek cf.body 0) cf.body).al 0 (2 ^ cf.ldepth - 1)).map fun i => (i, (0, []))) [] c0 := by
  refine ⟨k1, fun i p hp => ?_, fun d l hd => (by cases hd), fun t ht => by rw [show c0.f = qbk (Tr.mk qai cf.depth) 0 args from rfl, k3]; exact hm t ht⟩
  obtain ⟨e1, e2⟩ := qhz hp
  subst e1
  exact ⟨Tr.get_mk _ _ _, Tr.has_mk _ _ _ (by omega)⟩
 obtain ⟨x, c1, F1, L1, h1, m1, m2, m3, m4⟩ := qbO (c := c0) cf.body hrf ag h
 refine ⟨(x, c1), m1, ?_⟩
 cases x with
 | exit i => cases m4
 | normal =>
  obtain ⟨l, h2, h3⟩ := qhy m3 cf.res m4
  simp only [Option.some.injEq, Prod.mk.injEq] at h3
  exact ⟨by simp only [qfx, h2, Option.map_some, h3.1], h3.2⟩
 | ret =>
  obtain ⟨l, h2, h3⟩ := qhy m3 cf.res m4
  simp only [Option.some.injEq, Prod.mk.injEq] at h3
  exact ⟨by simp only [qfx, h2, Option.map_some, h3.1], h3.2⟩
theorem qjI {cf : CF} {e : Env} {n : Nat} {args : List AVal} {s s' : ASt} {v : AVal} (hn : args.length < 2 ^ cf.depth) (h : qat cf e n args s = some (v, s')) :
  ∃ r, qbb e n cf.body ⟨qbk (Tr.mk qai cf.depth) 0 args, Tr.mk (0, []) cf.ldepth, [], none, s⟩ = some r ∧ (∃ v', qfx e cf r = some v' ∧ qaA v' = qaA v) := by
 unfold qat at h
 have hm : ∀ j, j < 2 ^ cf.depth - 1 → (Tr.mk qai cf.depth).has j = true := fun j hj => Tr.has_mk _ _ _ (by omega)
 obtain ⟨k1, k2, k3⟩ := qem 0 args (Tr.mk qai cf.depth) 0 fun j hj => hm j (by omega)
 let c0 : Cfg := ⟨qbk (Tr.mk qai cf.depth) 0 args, Tr.mk (0, []) cf.ldepth, [], none, s⟩
 have ag : AG (2 ^ cf.depth - 1) (qsu 0 args) ((qa1 (qhw (qek cf.body 0) cf.body).al 0 (2 ^ cf.ldepth - 1)).map fun i => (i, (0, []))) [] c0 := by
  refine ⟨k1, fun i p hp => ?_, fun d l hd => (by cases hd), fun t ht => by rw [show c0.f = qbk (Tr.mk qai cf.depth) 0 args from rfl, k3]; exact hm t ht⟩
  obtain ⟨e1, e2⟩ := qhz hp
  subst e1
  exact ⟨Tr.get_mk _ _ _, Tr.has_mk _ _ _ (by omega)⟩
 obtain ⟨x, c1, F1, L1, h1, m1, m2, m3, ⟨v9, s9, m4, e9⟩⟩ := qcs (c := c0) cf.body rfl ag h
 refine ⟨(x, c1), m1, ?_⟩
 cases x with
 | exit i => cases m4
 | normal =>
  obtain ⟨l, h2, h3⟩ := qhy m3 cf.res m4
  simp only [Option.some.injEq, Prod.mk.injEq] at h3
  exact ⟨v9, by simp only [qfx, h2, Option.map_some, h3.1], e9⟩
 | ret =>
  obtain ⟨l, h2, h3⟩ := qhy m3 cf.res m4
  simp only [Option.some.injEq, Prod.mk.injEq] at h3
  exact ⟨v9, by simp only [qfx, h2, Option.map_some, h3.1], e9⟩
end Go.AI
namespace Go.AI
variable {CP : Nat → Option CF}
def Ev (P : Nat → Prop) : Prop := ∃ N, ∀ n, N ≤ n → P n
theorem Ev.of {P : Nat → Prop} (h : ∀ n, P n) : Ev P := ⟨0, fun n _ => h n⟩
theorem Ev.mono {P Q : Nat → Prop} (h : Ev P) (k : ∀ n, P n → Q n) : Ev Q := by
 obtain ⟨N, h⟩ := h
 exact ⟨N, fun n hn => k n (h n hn)⟩
theorem Ev.and {P Q : Nat → Prop} (h : Ev P) (k : Ev Q) : Ev fun n => P n ∧ Q n := by
 obtain ⟨N, h⟩ := h
 obtain ⟨M, k⟩ := k
 exact ⟨N + M, fun n hn => ⟨h n (by omega), k n (by omega)⟩⟩
theorem Ev.ge (N : Nat) : Ev fun n => N ≤ n := ⟨N, fun _ h => h⟩
theorem Ev.succ {P : Nat → Prop} (h : Ev fun n => P (n + 1)) : Ev P := by
 obtain ⟨N, h⟩ := h
 refine ⟨N + 1, fun n hn => ?_⟩
 obtain ⟨m, rfl⟩ : ∃ m, n = m + 1 := ⟨n - 1, by omega⟩
 exact h m (by omega)
theorem qdc (CP : Nat → Option CF) (n : Nat) (E : qaJ) : (qae CP (n + 1) E).call = qbW CP (qae CP n) n E := rfl
theorem qaQ (CP : Nat → Option CF) (n : Nat) (E : qaJ) : (qae CP n E).E = E := by cases n <;> rfl
theorem qnY {n f : Nat} {E : qaJ} {cf : CF} {args : List AVal} {s s' : ASt} {v : AVal} (hcf : CP f = some cf) (hp : cf.pure = true) (hc : cf.clone = false) (hk : cf.keepA = false) (hl : args.length = cf.np) (hd : cf.np < 2 ^ cf.depth) (ha : args.all qbj = true)
  (hb : qat cf (qae CP n (s.heap ++ E)) n (args.map qaA) { s with heap := [], toks := [] } = some (v, s')) (hpl : qd0 s.next (qaA v) = true) : (qae CP (n + 1) E).call f args s = some (qaA v, s) := by
 rw [qdc]
 unfold qbW
 rw [hcf, Option.bind_some, qaz hl, ha, hc, hp, hk]
 simp only [Bool.and_self, Bool.false_and, cond_true, cond_false]
 obtain ⟨r, h1, v', h2, h3⟩ := qjI (by rw [List.length_map, hl]; exact hd) hb
 have : qle (qae CP n (s.heap ++ E)) n cf (args.map qaA) s = some v' := by
  unfold qle
  rw [h1, Option.bind_some, h2]
 rw [this, Option.bind_some, h3, hpl, cond_true]
theorem qpS {n f : Nat} {E : qaJ} {cf : CF} {args : List AVal} {s s' : ASt} {v : AVal} (hrf : qcc cf.body = true) (hcf : CP f = some cf) (hp : cf.pure = false) (hc : cf.clone = false) (hl : args.length = cf.np) (hd : cf.np < 2 ^ cf.depth) (ha : args.all qbj = true)
  (hb : qat cf (qae CP n E) n (cond cf.keepA args (args.map qaA)) s = some (v, s')) (hpl : qlc (cond cf.keepR v (qaA v)) = true) : (qae CP (n + 1) E).call f args s = some (cond cf.keepR v (qaA v), s') := by
 rw [qdc]
 unfold qbW
 rw [hcf, Option.bind_some, qaz hl, ha, hc, hp]
 simp only [Bool.and_self, Bool.false_and, cond_true, cond_false]
 have hlen : (cond cf.keepA args (args.map qaA)).length < 2 ^ cf.depth := by
  cases cf.keepA <;> simp [hl, hd]
 obtain ⟨r, h1, h2, h3⟩ := qii hrf hlen hb
 rw [h1, Option.bind_some, h2, Option.bind_some, hpl, cond_true, h3]
def flP (cf : CF) (np : Nat) : Bool := cf.pure && (!cf.clone && (!cf.keepA && (Nat.beq cf.np np && Nat.blt cf.np (2 ^ cf.depth))))
def flI (cf : CF) (np : Nat) : Bool := qcc cf.body && (!cf.pure && (!cf.clone && (!cf.keepA && (!cf.keepR && (Nat.beq cf.np np && Nat.blt cf.np (2 ^ cf.depth))))))
theorem qgq {n f np : Nat} {E : qaJ} {cf : CF} {args args' : List AVal} {s s' : ASt} {v v' : AVal} (hcf : CP f = some cf) (hfl : flP cf np = true) (hl : args.length = np) (ha : args.all qbj = true) (hargs : args.map qaA = args')
  (hb : qat cf (qae CP n (s.heap ++ E)) n args' { s with heap := [], toks := [] } = some (v, s')) (hv : qaA v = v') (hpl : qd0 s.next v' = true) : (qae CP (n + 1) E).call f args s = some (v', s) := by
 simp only [flP, Bool.and_eq_true, Bool.not_eq_true'] at hfl
 obtain ⟨h1, h2, h3, h4, h5⟩ := hfl
 subst hargs; subst hv
 exact qnY hcf h1 h2 h3 (by rw [hl]; exact (beq_iff.1 h4).symm) (blt_iff.1 h5) ha hb hpl
theorem qe4 {n f np : Nat} {E : qaJ} {cf : CF} {args args' : List AVal} {s s' : ASt} {v v' : AVal} (hcf : CP f = some cf) (hfl : flI cf np = true) (hl : args.length = np) (ha : args.all qbj = true) (hargs : args.map qaA = args')
  (hb : qat cf (qae CP n E) n args' s = some (v, s')) (hv : qaA v = v') (hpl : qlc v' = true) : (qae CP (n + 1) E).call f args s = some (v', s') := by
 simp only [flI, Bool.and_eq_true, Bool.not_eq_true'] at hfl
 obtain ⟨h0, h1, h2, h3, h4, h5, h6⟩ := hfl
 subst hargs; subst hv
 have := qpS (n := n) (E := E) (args := args) (s := s) (s' := s') (v := v) h0 hcf h1 h2 (by rw [hl]; exact (beq_iff.1 h5).symm) (blt_iff.1 h6) ha (by rw [h3]; exact hb) (by rw [h4]; exact hpl)
 rw [h4] at this
 exact this
@[simp] theorem qua {α : Type} (x y : α) : cnd true x y = x := rfl
@[simp] theorem qs9 {α : Type} (x y : α) : cnd false x y = y := rfl
theorem qbL (e : Env) (f : Nat) (xs : List AVal) (s : ASt) : cl e f xs s = e.call f xs s := by
 have : (xs.map Arg.c).map (Arg.ev .nil) = xs := by
  induction xs with
  | nil => rfl
  | cons x xs ih => simp only [List.map_cons, ih]; rfl
 unfold cl stV
 simp only [qaB, this]
 cases e.call f xs s with
 | none => rfl
 | some r => rfl
theorem qgr (e : Env) (f : AVal) (xs : List AVal) (s : ASt) : clv e f xs s = e.callv f xs s := by
 have : (xs.map Arg.c).map (Arg.ev .nil) = xs := by
  induction xs with
  | nil => rfl
  | cons x xs ih => simp only [List.map_cons, ih]; rfl
 unfold clv stV
 simp only [qaB, this, Arg.ev]
 cases e.callv f xs s with
 | none => rfl
 | some r => rfl
theorem qmD (n : Nat) (E : qaJ) (f : Nat) (a b args : List AVal) (s : ASt) : (qae CP (n + 1) E).callv (.func f a b) args s = (qae CP (n + 1) E).call f (a ++ (args ++ b)) s := rfl
theorem qeo (n : Nat) (E : qaJ) (f : Nat) (a b : List PVal) (args : List AVal) (s : ASt) : (qae CP (n + 1) E).callv (.p (.func f a b)) args s = (qae CP (n + 1) E).call f (a.map PVal.whole ++ (args ++ b.map PVal.whole)) s := rfl
@[simp] theorem qab {α β γ : Type} (a : α) (b : β) (k : α → β → Option γ) : qac (some (a, b)) k = k a b := rfl
@[simp] theorem qaa (b : Bool) (x y : Res) : qad (.p (.bool b)) x y = cond b x y := rfl
@[simp] theorem qav {α β : Type} (x : α) (f : α → β) : jn x f = f x := rfl
theorem qa9 {T : Type} (z : T) (f : T → T) (n : Nat) : lp z f (n + 1) = f (lp z f n) := rfl
@[simp] theorem qag (o : BinOp) (k : IntKind) (a b : Int) : bn o (.p (.int k a)) (.p (.int k b)) = (qbM o k a b).map .p := by
 unfold bn pu
 simp only [qax, Arg.ev, qmk]
 have : keq k k = true := by cases k <;> rfl
 rw [this]
 rfl
@[simp] theorem qvC (o : BinOp) (a b : ByteArray) : bn o (.p (.str a)) (.p (.str b)) = (qld o a b).map .p := rfl
@[simp] theorem qah (vs : List AVal) (i : Nat) : ex (.tuple vs) i = qeb vs i := rfl
@[simp] theorem qvD (s : ByteArray) : ln true (.p (.str s)) = some (.p (.int .i64 (.ofNat (qfe s)))) := rfl
@[simp] theorem qcV (n : Nat) (cs : List PVal) : ln false (.p (.sl n cs)) = some (.p (.int .i64 (.ofNat n))) := rfl
@[simp] theorem ln_sl (n : Nat) (cs : List PVal) (t : Tk) : ln false (.sl n cs t) = some (.p (.int .i64 (.ofNat n))) := rfl
@[simp] theorem qjJ (k k' : IntKind) (n : Int) : cv k (.p (.int k' n)) = some (.p (.int k (qa8 k n))) := rfl
@[simp] theorem qau (b : Bool) : nt (.p (.bool b)) = some (.p (.bool !b)) := rfl
theorem qta {sz n i : Nat} {cs : List PVal} {k : IntKind} (h : i < n) : iaV sz (.p (.sl n cs)) (.p (.int k (.ofNat i))) = some (cs, i * sz) := by
 unfold iaV
 simp only [qfw, qcU, blt_iff.2 h, cond_true]
theorem qfO (e : Env) (s : ASt) (cs : List PVal) (o : Nat) (n : Option Nat) : ldH e s (.elem cs o) n = ((cut cs o (cnt n)).map fun cs => cs.map AVal.p).bind (AVal.ofCells n) := by
 unfold ldH
 simp only [loadFrom]
 cases cut cs o (cnt n) <;> rfl
end Go.AI
namespace Go.AI
variable {P : Program}
theorem qjK (M : List Fact) (e : Env) (f : Nat) (args : List AVal) (s : ASt) : (qej M e).call f args s = match (qcb (args.map qaA)).bind (qeC M f) with
   | some r => some (.p r, s)
   | none => e.call f args s := rfl
def qjL (f : Nat) : List Fact → Bool
 | [] => true
 | x :: r => !Nat.beq x.f f && qjL f r
theorem qgs {f : Nat} {args : List PVal} : ∀ {M : List Fact}, qjL f M = true → qeC M f args = none
 | [], _ => rfl
 | x :: M, h => by
  simp only [qjL, Bool.and_eq_true, Bool.not_eq_true'] at h
  unfold qeC
  rw [h.1, Bool.false_and, cond_false]
  exact qgs h.2
theorem qmE {M : List Fact} {e : Env} {f : Nat} (h : qjL f M = true) (args : List AVal) (s : ASt) : cl (qej M e) f args s = cl e f args s := by
 rw [qbL, qbL, qjK]
 cases hp : qcb (args.map qaA) with
 | none => rfl
 | some cs =>
  rw [Option.bind_some, qgs h]
theorem qpT {CP : Nat → Option CF} (pk : ProgOK P CP) {M : List Fact} (hM : ∀ x ∈ M, qjw P CP x) {n f : Nat} {cf : CF} {args : List AVal} {vs : Array Value} {b : Bool} {s' : ASt} (hcf : CP f = some cf) (hnp : args.length = cf.np) (hd : cf.np < 2 ^ cf.depth) {w : World}
  (ha : VRs G00 w args vs.toList) (h : qat cf (qej M (qae CP n [])) n args s00 = some (.p (.bool b), s')) : Calls P f vs w fun e w' => e = .returned (.bool b) ∧ RowKit.Grown w w' := by
 obtain ⟨r, hr, v', hl, hv'⟩ := qjI (by rw [hnp]; exact hd) h
 have hv2 : v' = .p (.bool b) := by
  cases v' <;> first | (cases hv'; done) | (rename_i pv; cases pv <;> first | exact hv' | cases hv')
 rw [hv2] at hl
 obtain ⟨fn, fl, hf, hc, _⟩ := pk.code f cf hcf
 have se := qrr pk hM (qlE pk n [])
 have hE : (qej M (qae CP n [])).E = [] := qei CP n []
 have mr : MR P (qej M (qae CP n [])).E (fun _ => none) (fun _ => none) (Tr.mk (0, []) cf.ldepth) s00 G00 w := by
  rw [hE]
  have h0 := qvB P w
  refine ⟨h0.own, h0.bOf, h0.lo_, h0.un, fun i zs h => (by cases h), h0.nt, fun i g cs h hg _ => ?_, fun i g b h => (by cases h), h0.heap, h0.ro, h0.tok⟩
  rw [Tr.get_mk] at h
  cases h
  exact absurd rfl hg
 have := qnF (args := args) (vs := vs) (v := .p (.bool b)) se pk.orders hf hc hnp mr ha hr hl
 exact Calls.mono ((callsIn_wide (n := 0)).1 this) fun e w' ⟨u, he, G', x, _, hv⟩ => ⟨by rw [he, hv.bool_inv], qlF x⟩
end Go.AI
namespace Go.AI
def qij : EX → AVal
 | .normal => u8 0
 | .exit i => i64 (.ofNat i)
 | .ret => u8 2
theorem qnZ {x y : EX} (h : qij x = qij y) : x = y := by
 cases x <;> cases y <;> simp only [qij, AVal.p.injEq, PVal.int.injEq, reduceCtorEq, false_and] at h ⊢
 ·simp at h
 ·obtain ⟨_, h⟩ := h
  injection h with h
  rw [h]
 ·simp at h
noncomputable def qpU (nt nl : Nat) (e : Env) (n : Nat) (a b : CC) (u : ASt → ASt) (F : FL) (L : LL) (s : ASt) : Res :=
 match qek b (qek a 0) with
 | loc => qeF loc nt nl e n a (qmA b 0 [] 0) [] 0 F L [] s fun x F L _ s => match x with
  | .normal => qeF loc nt nl e n b 0 [] 0 F L [] (u s) fun x _ _ _ s => some (qij x, s)
  | _ => none
theorem qtb {nt nl : Nat} {e : Env} {n : Nat} {a b : CC} {u : ASt → ASt} {F : FL} {L : LL} {c : Cfg} {x : EX} {s2 : ASt} (hrf : (qcc a && qcc b) = true) (hcs : (qhw (qek b (qek a 0)) a).cs = false) (ag : AG nt F L [] c) (h : qpU nt nl e n a b u F L c.s = some (qij x, s2)) :
  ∃ ca cb, qbb e n a c = some (.normal, ca) ∧ ca.s = c.s ∧ qbb e n b { ca with s := u c.s } = some (x, cb) ∧ cb.s = s2 := by
 rw [Bool.and_eq_true] at hrf
 unfold qpU at h
 obtain ⟨y, ca, F1, L1, h1, k1, k2, k3, k4⟩ := qbO a hrf.1 ag h
 have hs := k2.s hcs
 cases y with
 | normal =>
  simp only at k4
  rw [hs] at k4
  obtain ⟨z, cb, F2, L2, h2, m1, m2, m3, m4⟩ := qbO (c := { ca with s := u c.s }) b hrf.2 ⟨k3.f, k3.l, fun d l hd => (by cases hd), k3.hf⟩ k4
  simp only [Option.some.injEq, Prod.mk.injEq] at m4
  have := qnZ m4.1
  subst this
  exact ⟨ca, cb, k1, hs, m1, m4.2⟩
 | exit i => cases k4
 | ret => cases k4
end Go.AI
namespace Go.AI
variable {P : Program}
inductive HasT (P : Program) : Nat → TypeId → List PVal → Prop where
 | bool {n t} (ht : P.underlying t = some .bool) (b : Bool) : HasT P (n + 1) t [.bool b]
 | int {n t k} (ht : P.underlying t = some (.int k)) (a : Int) (hw : (Lit.int k a).wf = true) : HasT P (n + 1) t [.int k a]
 | str {n t} (ht : P.underlying t = some .string) (s : ByteArray) (hs : s.size ≤ maxLen) : HasT P (n + 1) t [.str s]
 | sl {n t e} (ht : P.underlying t = some (.slice e)) (ls : List (List PVal)) (hl : ls.length ≤ maxLen) (h : ∀ l ∈ ls, HasT P n e l) : HasT P (n + 1) t [.sl ls.length ls.flatten]
 | struct {n t fs} (ht : P.underlying t = some (.struct fs)) (ls : List (List PVal)) (hl : ls.length = fs.size) (h : ∀ (i : Nat) l f, ls[i]? = some l → fs[i]? = some f → HasT P n f.type l) : HasT P (n + 1) t ls.flatten
def qtc (P : Program) : List Field → Nat → Option Nat
 | [], off => some off
 | f :: r, off => cond (Nat.beq f.offset off) (qtc P r (off + P.cellsOf f.type)) none
def qqF (P : Program) (ts : List TypeId) (t : TypeId) : Bool :=
 match P.underlying t with
 | some .bool => Nat.beq (P.cellsOf t) 1
 | some (.int _) => Nat.beq (P.cellsOf t) 1
 | some .string => Nat.beq (P.cellsOf t) 1
 | some (.slice e) => Nat.beq (P.cellsOf t) 1 && (ts.contains e && Nat.blt 0 (P.cellsOf e))
 | some (.struct fs) => fs.toList.all (fun f => ts.contains f.type) && (match qtc P fs.toList 0 with
  | some n => Nat.beq n (P.cellsOf t)
  | none => false)
 | _ => false
def qkE (P : Program) (ts : List TypeId) : Bool := ts.all (qqF P ts)
abbrev S1 : Nat → Nat → Prop := fun _ _ => True
def qmF (P : Program) (w : World) (n : Nat) (t : TypeId) (cs : List Value) (pcs : List PVal) : Prop :=
 HasT P n t pcs ∧ pcs.length = cs.length ∧ (∀ v ∈ cs, v.oneCell' = true) ∧ ∀ (i : Nat) c v, pcs[i]? = some c → cs[i]? = some v → PR S1 w c v
theorem qdL {w : World} {n : Nat} {t : TypeId} {c : PVal} {v : Value} (h : HasT P n t [c]) (h1 : v.oneCell' = true) (hp : PR S1 w c v) : qmF P w n t [v] [c] := by
 refine ⟨h, rfl, by simpa using h1, fun i d u hd hu => ?_⟩
 cases i with
 | zero =>
  simp only [List.getElem?_cons_zero, Option.some.injEq] at hd hu
  subst hd; subst hu; exact hp
 | succ i => simp at hd
theorem qg4 {w : World} {a : Addr} {sz : Nat} {cs : List Value} (h : (List.range sz).mapM (fun i => w.cell? (a.add i)) = some cs) : cs.length = sz ∧ ∀ (j : Nat) v, cs[j]? = some v → w.cell? (a.add j) = some v := by
 have h1 := mapM_some_length h
 rw [List.length_range] at h1
 refine ⟨h1, fun j v hj => ?_⟩
 have hj' : j < sz := by
  rw [← h1]
  exact (List.getElem?_eq_some_iff.1 hj).1
 have := mapM_some_get h j j (by rw [List.getElem?_range hj'])
 rw [this]; exact hj
theorem qik {α : Type} {sz : Nat} : ∀ {ls : List (List α)}, (∀ l ∈ ls, l.length = sz) → ls.flatten.length = ls.length * sz ∧ ∀ (i : Nat) x, ls.flatten[i]? = some x → 0 < sz → ∃ l, ls[i / sz]? = some l ∧ l[i % sz]? = some x
 | [], _ => ⟨by simp, fun i x h => by simp at h⟩
 | l :: ls, h => by
  obtain ⟨h1, h2⟩ := qik (ls := ls) fun l hl => h l (List.mem_cons_of_mem _ hl)
  have hl := h l (List.mem_cons_self ..)
  refine ⟨by simp only [List.flatten_cons, List.length_append, h1, hl, List.length_cons, Nat.add_mul, Nat.one_mul]; omega, fun i x hx hs => ?_⟩
  rw [List.flatten_cons] at hx
  by_cases hi : i < sz
  ·rw [List.getElem?_append_left (by rw [hl]; exact hi)] at hx
   refine ⟨l, ?_, ?_⟩
   ·rw [Nat.div_eq_of_lt hi]; rfl
   ·rw [Nat.mod_eq_of_lt hi]; exact hx
  ·rw [List.getElem?_append_right (by rw [hl]; omega), hl] at hx
   obtain ⟨m, hm, hx⟩ := h2 _ x hx hs
   refine ⟨m, ?_, ?_⟩
   ·have : i / sz = (i - sz) / sz + 1 := by
     rw [← Nat.add_div_right _ hs]
     congr 1; omega
    rw [this, List.getElem?_cons_succ]; exact hm
   ·have : i % sz = (i - sz) % sz := by
     rw [Nat.mod_eq_sub_mod (by omega)]
    rw [this]; exact hx
section
variable {H : Type} {enc : TypeId × Value → H} {w : World} {base : Nat} {spare : Nat → Bool} {held : Bool}
theorem qfm {ts : List TypeId} {n : Nat} {cs : List Value} (ih : ∀ t cs x, t ∈ ts → DataW.trod enc P w base spare held n t cs = some x → ∃ pcs, qmF P w n t cs pcs) :
  ∀ (fs : List Field) (off tot : Nat), qtc P fs off = some tot → tot ≤ cs.length → (∀ f ∈ fs, f.type ∈ ts) → (∀ f ∈ fs, ∃ x, DataW.trod enc P w base spare held n f.type ((cs.drop f.offset).take (P.cellsOf f.type)) = some x) →
   off ≤ tot ∧ ∃ ls : List (List PVal), ls.length = fs.length ∧ (∀ (i : Nat) l f, ls[i]? = some l → fs[i]? = some f → HasT P n f.type l) ∧ ls.flatten.length = tot - off ∧ (∀ v ∈ (cs.drop off).take (tot - off), v.oneCell' = true) ∧
    ∀ (i : Nat) c v, ls.flatten[i]? = some c → (cs.drop off)[i]? = some v → PR S1 w c v
 | [], off, tot, h, hle, _, _ => by
  simp only [qtc, Option.some.injEq] at h
  subst h
  exact ⟨Nat.le_refl _, [], rfl, fun i l f h => (by simp at h), by simp, fun v hv => by simp at hv, fun i c v h => by simp at h⟩
 | f :: fs, off, tot, h, hle, hts, hx => by
  simp only [qtc] at h
  obtain ⟨ho, h⟩ := qap h
  have ho := beq_iff.1 ho
  obtain ⟨h1, ls, h2, h3, h4, h5, h6⟩ := qfm ih fs _ tot h hle (fun g hg => hts g (List.mem_cons_of_mem _ hg)) (fun g hg => hx g (List.mem_cons_of_mem _ hg))
  obtain ⟨x, hx⟩ := hx f (List.mem_cons_self ..)
  rw [ho] at hx
  obtain ⟨pcs, k1, k2, k3, k4⟩ := ih f.type _ x (hts f (List.mem_cons_self ..)) hx
  have hlen : pcs.length = P.cellsOf f.type := by
   rw [k2, List.length_take, List.length_drop]
   omega
  refine ⟨by omega, pcs :: ls, by simp [h2], fun i l g hl hg => ?_, ?_, fun v hv => ?_, fun i c v hc hv => ?_⟩
  ·cases i with
   | zero =>
    simp only [List.getElem?_cons_zero, Option.some.injEq] at hl hg
    subst hl; subst hg; exact k1
   | succ i => exact h3 i l g (by simpa using hl) (by simpa using hg)
  ·rw [List.flatten_cons, List.length_append, hlen, h4]; omega
  ·have e : (cs.drop off).take (tot - off) = (cs.drop off).take (P.cellsOf f.type) ++ (cs.drop (off + P.cellsOf f.type)).take (tot - (off + P.cellsOf f.type)) := by
    rw [← List.drop_drop]
    have : tot - off = P.cellsOf f.type + (tot - (off + P.cellsOf f.type)) := by omega
    rw [this, List.take_add]
   rw [e, List.mem_append] at hv
   rcases hv with hv | hv
   ·exact k3 v hv
   ·exact h5 v hv
  ·rw [List.flatten_cons] at hc
   by_cases hi : i < P.cellsOf f.type
   ·rw [List.getElem?_append_left (by rw [hlen]; exact hi)] at hc
    exact k4 i c v hc (by rw [List.getElem?_take, if_pos hi]; exact hv)
   ·rw [List.getElem?_append_right (by rw [hlen]; omega), hlen] at hc
    refine h6 _ c v hc ?_
    rw [← List.drop_drop, List.getElem?_drop]
    rw [show P.cellsOf f.type + (i - P.cellsOf f.type) = i by omega]
    exact hv
theorem qmG {ts : List TypeId} (hok : qkE P ts = true) : ∀ (n : Nat) (t : TypeId) (cs : List Value) (x : DataW H × List MemPlace), t ∈ ts → DataW.trod enc P w base spare held n t cs = some x → ∃ pcs, qmF P w n t cs pcs := by
 intro n
 induction n with
 | zero => intro t cs x _ h; simp [DataW.trod] at h
 | succ n ih =>
  intro t cs x ht h
  have hk := List.all_eq_true.1 hok t ht
  unfold qqF at hk
  split at hk
  ·rename_i hu
   obtain ⟨b, rfl, _⟩ := DataW.trod_bool hu h
   exact ⟨[.bool b], qdL (.bool hu b) rfl (.bool b)⟩
  ·rename_i k hu
   obtain ⟨a, rfl, _, hw⟩ := DataW.trod_int hu h
   exact ⟨[.int k a], qdL (.int hu a hw) rfl (.int k a)⟩
  ·rename_i hu
   obtain ⟨s, rfl, _, hs⟩ := DataW.trod_string hu h
   exact ⟨[.str s], qdL (.str hu s hs) rfl (.str s)⟩
  ·rename_i e hu
   simp only [Bool.and_eq_true] at hk
   have he : e ∈ ts := by simpa using hk.2.1
   have hsz : 0 < P.cellsOf e := blt_iff.1 hk.2.2
   rcases DataW.trod_slice hu h with ⟨rfl, _⟩ | ⟨a, len, cap, elems, rest, m, hm, rfl, _, _, hlc, hcm, hlen, hel, _, _⟩
   ·refine ⟨[.sl 0 []], qdL (HasT.sl hu [] (Nat.zero_le _) fun l hl => by cases hl) rfl (PR.nil_row _ _)⟩
   ·have hm : n = m := by omega
    subst hm
    have each : ∀ i, i < len → ∃ csi pcs, w.cells? base (a.add (i * P.cellsOf e)) (P.cellsOf e) = some csi ∧ qmF P w n e csi pcs := by
     intro i hi
     have h1 := hel i hi
     obtain ⟨y, hy⟩ : ∃ y, elems[i]? = some y := ⟨elems[i]'(by omega), List.getElem?_eq_getElem _⟩
     rw [hy, Option.bind_eq_some_iff] at h1
     obtain ⟨csi, h2, h3⟩ := h1
     obtain ⟨pcs, hp⟩ := ih e csi y he h3
     exact ⟨csi, pcs, h2, hp⟩
    have rows : ∀ k, k ≤ len → ∃ (cls : List (List Value)) (pls : List (List PVal)), cls.length = k ∧ pls.length = k ∧ ∀ i, i < k → ∃ c p, cls[i]? = some c ∧ pls[i]? = some p ∧ w.cells? base (a.add (i * P.cellsOf e)) (P.cellsOf e) = some c ∧ qmF P w n e c p := by
     intro k
     induction k with
     | zero => intro _; exact ⟨[], [], rfl, rfl, fun i h => by omega⟩
     | succ k ihk =>
      intro hk
      obtain ⟨cls, pls, e1, e2, h1⟩ := ihk (by omega)
      obtain ⟨c, p, h2, h3⟩ := each k (by omega)
      refine ⟨cls ++ [c], pls ++ [p], by simp [e1], by simp [e2], fun i hi => ?_⟩
      by_cases hik : i < k
      ·obtain ⟨c', p', h4, h5, h6⟩ := h1 i hik
       exact ⟨c', p', by rw [List.getElem?_append_left (by omega)]; exact h4, by rw [List.getElem?_append_left (by omega)]; exact h5, h6⟩
      ·have : i = k := by omega
       subst this
       exact ⟨c, p, by rw [← e1, List.getElem?_append_right (Nat.le_refl _)]; simp, by rw [← e2, List.getElem?_append_right (Nat.le_refl _)]; simp, h2, h3⟩
    obtain ⟨cls, pls, e1, e2, h1⟩ := rows len (Nat.le_refl _)
    have cell : ∀ i c, w.cells? base (a.add (i * P.cellsOf e)) (P.cellsOf e) = some c → c.length = P.cellsOf e ∧ ∀ (j : Nat) v, c[j]? = some v → w.cell? (a.add (i * P.cellsOf e + j)) = some v := by
     intro i c hc
     unfold World.cells? at hc
     split at hc <;> try (cases hc; done)
     obtain ⟨k1, k2⟩ := qg4 hc
     refine ⟨k1, fun j v hv => ?_⟩
     have := k2 j v hv
     rw [qfE] at this
     exact this
    have hcl : ∀ l ∈ cls, l.length = P.cellsOf e := by
     intro l hl
     obtain ⟨i, hi, rfl⟩ := List.getElem_of_mem hl
     obtain ⟨c, p, h4, _, h5, _⟩ := h1 i (by omega)
     rw [List.getElem?_eq_getElem hi, Option.some.injEq] at h4
     rw [h4]
     exact (cell i c h5).1
    have hpl : ∀ l ∈ pls, l.length = P.cellsOf e ∧ HasT P n e l := by
     intro l hl
     obtain ⟨i, hi, rfl⟩ := List.getElem_of_mem hl
     obtain ⟨c, p, h4, h6, h5, h7, h8, _⟩ := h1 i (by omega)
     rw [List.getElem?_eq_getElem hi, Option.some.injEq] at h6
     rw [h6]
     exact ⟨by rw [h8]; exact (cell i c h5).1, h7⟩
    obtain ⟨f1, f2⟩ := qik hcl
    obtain ⟨g1, g2⟩ := qik fun l hl => (hpl l hl).1
    refine ⟨[.sl len pls.flatten], qdL ?_ rfl ?_⟩
    ·have := HasT.sl hu pls (by omega) fun l hl => (hpl l hl).2
     rw [e2] at this
     exact this
    ·refine .sl len pls.flatten (some a) cap cls.flatten hlc (by rw [g1, f1, e1, e2]) ⟨fun h0 => ?_, fun h0 => ?_⟩ (fun v hv => ?_) (fun i v hv => ?_) (fun i c v hc hv => ?_)
     ·subst h0
      rw [List.length_eq_zero_iff.1 e2]; rfl
     ·rcases Nat.eq_zero_or_pos len with h | h
      ·exact h
      ·rw [h0, e2] at g1
       have := Nat.mul_pos h hsz
       simp at g1
       omega
     ·obtain ⟨i, hi⟩ := List.getElem?_of_mem hv
      obtain ⟨l, hl, hv'⟩ := f2 i v hi hsz
      have hlt : i / P.cellsOf e < len := by rw [← e1]; exact (List.getElem?_eq_some_iff.1 hl).1
      obtain ⟨c, p, h4, h6, h5, _, _, h8, _⟩ := h1 _ hlt
      rw [hl] at h4
      cases h4
      exact h8 v (List.mem_of_getElem? hv')
     ·obtain ⟨l, hl, hv'⟩ := f2 i v hv hsz
      have hlt : i / P.cellsOf e < len := by rw [← e1]; exact (List.getElem?_eq_some_iff.1 hl).1
      obtain ⟨c, p, h4, h6, h5, _⟩ := h1 _ hlt
      rw [hl] at h4
      cases h4
      have := (cell _ _ h5).2 _ v hv'
      rw [show i / P.cellsOf e * P.cellsOf e + i % P.cellsOf e = i by rw [Nat.mul_comm]; exact Nat.div_add_mod i _] at this
      exact ⟨a, rfl, this, trivial⟩
     ·obtain ⟨l, hl, hv'⟩ := f2 i v hv hsz
      obtain ⟨m, hm', hc'⟩ := g2 i c hc hsz
      have hlt : i / P.cellsOf e < len := by rw [← e1]; exact (List.getElem?_eq_some_iff.1 hl).1
      obtain ⟨c0, p0, h4, h6, h5, _, _, _, h8⟩ := h1 _ hlt
      rw [hl] at h4
      cases h4
      rw [hm'] at h6
      cases h6
      exact h8 _ c v hc' hv'
  ·rename_i fs hu
   simp only [Bool.and_eq_true] at hk
   obtain ⟨xs, m, hm, _, hlen, hxl, hxs⟩ := DataW.trod_struct hu h
   have hm : n = m := by omega
   subst hm
   obtain ⟨hk1, hk2⟩ := hk
   split at hk2 <;> try (cases hk2; done)
   rename_i tot htot
   have htot' := beq_iff.1 hk2
   obtain ⟨_, ls, h2, h3, h4, h5, h6⟩ := qfm (cs := cs) ih fs.toList 0 tot htot (by omega) (fun f hf => by simpa using List.all_eq_true.1 hk1 f hf) (fun f hf => by
    obtain ⟨i, hi, rfl⟩ := List.getElem_of_mem hf
    have := hxs i (fs.toList[i]) (by rw [← Array.getElem?_toList, List.getElem?_eq_getElem hi])
    rw [this]
    have hi' : i < xs.length := by rw [hxl, ← Array.length_toList]; exact hi
    exact ⟨xs[i], List.getElem?_eq_getElem hi'⟩)
   refine ⟨ls.flatten, HasT.struct hu ls (by rw [h2, Array.length_toList]) (fun i l f hl hf => h3 i l f hl (by rw [Array.getElem?_toList]; exact hf)), by rw [h4, hlen]; omega, fun v hv => h5 v (by rw [List.drop_zero, Nat.sub_zero, htot', ← hlen, List.take_length]; exact hv), fun i c v hc hv => h6 i c v hc (by rw [List.drop_zero]; exact hv)⟩
  ·cases hk
end
end Go.AI
