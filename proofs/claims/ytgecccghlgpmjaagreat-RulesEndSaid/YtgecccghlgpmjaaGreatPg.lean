/- Part 7: what the functions of the program compute, function by function. No condition. -/
import Derived.Test.YtgecccghlgpmjaaGreatPf
set_option linter.unusedVariables false
set_option linter.unusedSimpArgs false
namespace Go.AI.Tryz
noncomputable def F33 (e : Env) (n : Nat) (x30 : AVal) (x2 : AVal) : (AVal → Nat → Nat → List AVal → List AVal → List AVal → List AVal → List AVal → List AVal → ASt → Res) → AVal → Nat → Nat → List AVal → List AVal → List AVal → List AVal → List AVal → List AVal → ASt → Res := (fun h41 x31 g32 g33 c34 c35 c36 c37 c38 c39 s40 =>
 (bn .lss x31 x30).bind fun x42 =>
 qad x42 (qac (iaV 2 x2 x31) fun q43 o44 =>
 (ldH e s40 (.elem q43 o44) (some 2)).bind fun x45 =>
 (AVal.cells (some 2) x45).bind fun c46 =>
 cnd (Nat.beq (g32 + 1) (g32 + 1)) ((over [(u8 0), (i64 0)] 0 c46).bind fun c47 =>
 (ldL c34 0 (some 4)).bind fun x48 =>
 (ldL c35 0 (some 5)).bind fun x49 =>
 cnd (Nat.beq (g32 + 1) (g32 + 1)) ((ldL c47 0 (some 2)).bind fun x50 =>
 qac (cl e 55 [x48, x49, x50] s40) fun x51 s52 =>
 (ex x51 0).bind fun x53 =>
 (ex x51 1).bind fun x54 =>
 (AVal.cells (some 5) x53).bind fun c55 =>
 cnd (Nat.beq (g33 + 1) (g33 + 1)) ((over [(u8 0), (i64 0), (i64 0), (i64 0), (.sl 0 [] .full)] 0 c55).bind fun c56 =>
 (nt x54).bind fun x57 =>
 qad x57 ((bd [(u8 0), (i64 0), (i64 0), (i64 0), (.sl 0 [] .full)] []).bind fun x58 =>
 (AVal.cells (some 5) x58).bind fun c59 =>
 (over c36 0 c59).bind fun c60 =>
 (ldL c60 0 (some 5)).bind fun x61 =>
 some (.tuple [x61, x31, (i64 7)], s52))
 (cnd (Nat.beq (g33 + 1) (g33 + 1)) ((ldL c56 0 (some 5)).bind fun x62 =>
 (AVal.cells (some 5) x62).bind fun c63 =>
 (over c35 0 c63).bind fun c64 =>
 (bn .add x31 (i64 1)).bind fun x65 =>
 h41 x65 (g32 + 1) (g33 + 1) c34 c64 c36 c37 c47 c56 s52) none)) none) none) none)
 ((ldL c35 0 (some 5)).bind fun x66 =>
 (ln false x2).bind fun x67 =>
 (AVal.cells (some 5) x66).bind fun c68 =>
 (over c36 0 c68).bind fun c69 =>
 (ldL c69 0 (some 5)).bind fun x70 =>
 some (.tuple [x70, x67, (i64 0)], s40)))
theorem lp33 (e : Env) (n : Nat) (x30 x2 : AVal) : s33_0 e n x30 x2 = lp (fun _ _ _ _ _ _ _ _ _ _ => none) (F33 e n x30 x2) n := rfl
theorem qhM (a : Ar) (t : Tm) (w : Rw) : qj5 a t w = ((qeu (fun k => decide (k = w.1)) 0 (qbf t (qaD a))).find? fun o => decide (o.1 = w.1) && decide (o.2.1 = w.2)).map fun o => qdB o.2.2 w.2 t := by
 unfold qj5
 generalize qeu (fun k => decide (k = w.1)) 0 (qbf t (qaD a)) = l
 induction l with
 | nil => rfl
 | cons o r ih =>
  simp only [qba, List.find?_cons]
  by_cases hb : (decide (o.1 = w.1) && decide (o.2.1 = w.2)) = true
  ·have e : qj4 t w none o = (some (qdB o.2.2 w.2 t), false) := by unfold qj4; rw [if_pos hb]
   rw [e, hb]; rfl
  ·have e : qj4 t w none o = (none, true) := by unfold qj4; rw [if_neg hb]
   have hb : (decide (o.1 = w.1) && decide (o.2.1 = w.2)) = false := by simpa using hb
   rw [e, hb]
   exact ih
theorem qso {a : Ar} {t : Tm} {w : Rw} {r : Tm} (h : Right a t) (h1 : a.ids.length ≤ 100000) (hs : t.size ≤ 100000) (e : qj5 a t w = some r) : Right a r ∧ r.size ≤ t.size := by
 rw [qhM, Option.map_eq_some_iff] at e
 obtain ⟨o, ho, rfl⟩ := e
 have hm := List.mem_of_find?_eq_some ho
 have hp := List.find?_some ho
 simp only [Bool.and_eq_true, decide_eq_true_eq] at hp
 have := qla h h1 hs hm
 rw [hp.2] at this
 exact this
def qiH (a : Ar) : List Rw → Tm → Nat → Tm × Int × Int
 | [], t, j => (t, .ofNat j, 0)
 | w :: r, t, j => match qj5 a t w with
  | none => (.z, .ofNat j, 7)
  | some t' => qiH a r t' (j + 1)
def qmZ (a : Ar) (t : Tm) (ws : List Rw) : Tm × Int × Int := if qbJ a t = 0 then (if 2000 < ws.length then (.z, 0, 5) else qiH a ws t 0) else (.z, 0, qbJ a t)
abbrev qph (r : Tm × Int × Int) : AVal := .tuple [r.1.v, i64 r.2.1, i64 r.2.2]
theorem qt0 (r : Tm × Int × Int) : qaA (qph r) = qph r := by rw [qph, Tm.v_eq]; rfl
theorem qo4 (lo : Nat) (r : Tm × Int × Int) : qd0 lo (qph r) = true := by rw [qph, Tm.v_eq]; rfl
theorem qj9 (a : Ar) (oa : a.Ok) (h1 : a.ids.length ≤ 100000) (ws : List Rw) (hw : ws.length ≤ 2000) (c37 : List AVal) :
  ∀ (r : List Rw) (t : Tm) (j : Nat), Right a t → t.size ≤ 100000 → ws.drop j = r → j ≤ ws.length →
   Ev fun n => ∀ E s k g1 g2 c38 c39, r.length < k → ∃ v, lp (fun _ _ _ _ _ _ _ _ _ _ => none) (F33 (qae CP n E) n (i64 (.ofNat ws.length)) (qfd ws)) k (i64 (.ofNat j)) g1 g2 (ac a) t.c ZC c37 c38 c39 s = some (v, s) ∧ qaA v = qph (qiH a r t j)
 | [], t, j, ht, hs, hd, hj => Ev.of fun n E s k g1 g2 c38 c39 hk => by
  obtain ⟨k, rfl⟩ : ∃ k', k = k' + 1 := ⟨k - 1, by omega⟩
  have hjl : j = ws.length := by
   have := congrArg List.length hd
   simp only [List.length_drop, List.length_nil] at this
   omega
  have h3 : ¬ (Int.ofNat j < Int.ofNat ws.length) := fun hh => by have := of_lt.1 hh; omega
  refine ⟨qph (qiH a [] t j), ?_, qt0 _⟩
  rw [qa9]
  generalize lp _ _ k = L
  unfold F33
  have ho : over ZC 0 t.c = some t.c := rfl
  simp only [h3, ho, qiH, qal, qaW, qag, qaE, qaH, decide_false, qaa, cond_false, Option.map_some, Option.bind_some, qcV, cnd]
  rw [hjl]
 | w :: r, t, j, ht, hs, hd, hj => by
  have hjl : j < ws.length := by
   rcases Nat.lt_or_ge j ws.length with h | h
   ·exact h
   ·rw [List.drop_eq_nil_of_le h] at hd; cases hd
  have hwj : ws[j] = w ∧ ws.drop (j + 1) = r := by
   rw [List.drop_eq_getElem_cons hjl] at hd
   simp only [List.cons.injEq] at hd
   exact hd
  have hdn := qtW a t w oa ht.ok h1 hs ht.c
  have hld : ∀ n E s, ldH (qae CP n E) s (.elem (qaU rwC ws) (j * 2)) (some 2) = some (rv w) := fun n E s => by
   have := qd4 (c := rwC) (sz := 2) (fun _ => rfl) (qae CP n E) s (List.getElem?_eq_getElem hjl)
   rw [hwj.1] at this
   exact this
  have hov : over [u8 0, i64 0] 0 [u8 w.1, i64 w.2] = some [u8 w.1, i64 w.2] := rfl
  cases hr : qj5 a t w with
  | none =>
   rw [hr] at hdn
   refine hdn.mono fun n hdn E s k g1 g2 c38 c39 hk => ?_
   obtain ⟨k, rfl⟩ : ∃ k', k = k' + 1 := ⟨k - 1, by omega⟩
   refine ⟨.tuple [.agg [u8 0, i64 0, i64 0, i64 0, .sl 0 [] .full], i64 (.ofNat j), i64 7], ?_, by simp only [qiH, hr]; rfl⟩
   rw [qa9]
   generalize lp _ _ k = L
   unfold F33
   simp only [of_lt.2 hjl, qcY hjl, hld, qqY, hov, qvJ, qmh, hdn, Nat.beq_refl, zbd, qj8, quy, qqk, qal, qaW, qaC, qag, qaE, qaH, decide_true, Bool.not_false, qaa, cond_true, Option.map_some, Option.bind_some, qab, qah, qar, qas, qau, qcV, cnd, qaw, Option.getD_none, Option.isSome_none]
  | some t' =>
   rw [hr] at hdn
   obtain ⟨ht', hs'⟩ := qso ht h1 hs hr
   refine (hdn.and (qj9 a oa h1 ws hw c37 r t' (j + 1) ht' (by omega) hwj.2 (by omega))).mono fun n ⟨hdn, ih⟩ E s k g1 g2 c38 c39 hk => ?_
   obtain ⟨k, rfl⟩ : ∃ k', k = k' + 1 := ⟨k - 1, by omega⟩
   obtain ⟨v, e, he⟩ := ih E s k (g1 + 1) (g2 + 1) [u8 w.1, i64 w.2] t'.c (by simp only [List.length_cons] at hk; omega)
   refine ⟨v, ?_, by simp only [qiH, hr]; exact he⟩
   rw [qa9]
   generalize lp _ _ k = L at e ⊢
   unfold F33
   have ho : over t.c 0 t'.c = some t'.c := rfl
   simp only [of_lt.2 hjl, qcY hjl, hld, qqY, hov, qvJ, qmh, hdn, Nat.beq_refl, ho, qa7 (show j < 9223372036854775807 by omega), qal, qaW, qaC, qag, qaE, qaH, decide_true, Bool.not_true, qaa, cond_true, cond_false, Option.map_some, Option.bind_some, qab, qah, qar, qas, qau, qcV, cnd, qaw, Option.getD_some, Option.isSome_some]
   exact e
theorem qq0 (a : Ar) (t : Tm) (ws : List Rw) (w : AVal) (hw : qaA w = qfd ws) (hwa : qbj w = true) (hl : ws.length ≤ 100000000) (oa : a.Ok) (ok : t.Ok) (h1 : a.ids.length ≤ 100000) (hs : t.size ≤ 100000) : PC CP 33 [a.v, t.v, w] (qph (qmZ a t ws)) := by
 unfold qmZ
 by_cases hc : qbJ a t = 0
 ·rw [if_pos hc]
  by_cases hlen : 2000 < ws.length
  ·rw [if_pos hlen]
   refine PC.of2 (cf := cf33) (np := 3) (args' := [a.v, t.v, qfd ws]) (by kernel_rfl) (by kernel_rfl) rfl (by simp only [List.all_cons, qan, hwa]; rfl) (by simp only [List.map_cons, qao, hw]; rfl) (fun lo => qo4 lo _)
    ((qgM a t oa ok h1 hs).mono fun n hlk E s => ⟨.tuple [.agg [u8 0, i64 0, i64 0, i64 0, .sl 0 [] .full], i64 0, i64 5], s, (s33_eq _ _ _ _ _ _).trans ?_, rfl⟩)
   rw [hc] at hlk
   have e : ((2000 : Int) < Int.ofNat ws.length) := by simp only [Int.ofNat_eq_natCast]; omega
   unfold s33
   simp only [qfu, qmh, hlk, e, zbd, qj8, quy, qqk, qal, qaW, qay, qfD, qag, qbm, qbe, decide_true, Bool.not_true, qaa, cond_true, cond_false, Option.map_some, Option.bind_some, qab, qah, qar, qas, qcV]
  ·rw [if_neg hlen]
   refine PC.of2 (cf := cf33) (np := 3) (args' := [a.v, t.v, qfd ws]) (by kernel_rfl) (by kernel_rfl) rfl (by simp only [List.all_cons, qan, hwa]; rfl) (by simp only [List.map_cons, qao, hw]; rfl) (fun lo => qo4 lo _)
    (((qgM a t oa ok h1 hs).and ((ql2 t (by omega)).and ((qj9 a oa h1 ws (by omega) (vw (qaD a) t).c ws t 0 ⟨hc, ok⟩ hs rfl (Nat.zero_le _)).and (Ev.ge 2001)))).mono fun n ⟨hlk, hcp, hlp, hn⟩ E s => ?_)
   rw [hc] at hlk
   obtain ⟨v, e, he⟩ := hlp E s n 0 0 [] [] (by omega)
   refine ⟨v, s, (s33_eq _ _ _ _ _ _).trans ?_, he⟩
   have e2 : ¬ ((2000 : Int) < Int.ofNat ws.length) := by simp only [Int.ofNat_eq_natCast]; omega
   have ho : over t.c 0 t.c = some t.c := rfl
   unfold s33
   simp only [qfu, qmh, hlk, e2, hcp, ho, qal, qaW, qay, qfD, qag, qbm, qbe, decide_true, decide_false, Bool.not_true, qaa, cond_false, Option.map_some, Option.bind_some, qab, qah, qar, qas, qcV]
   rw [lp33]
   exact e
 ·rw [if_neg hc]
  refine PC.of2 (cf := cf33) (np := 3) (args' := [a.v, t.v, qfd ws]) (by kernel_rfl) (by kernel_rfl) rfl (by simp only [List.all_cons, qan, hwa]; rfl) (by simp only [List.map_cons, qao, hw]; rfl) (fun lo => qo4 lo _)
   ((qgM a t oa ok h1 hs).mono fun n hlk E s => ⟨.tuple [.agg [u8 0, i64 0, i64 0, i64 0, .sl 0 [] .full], i64 0, i64 (qbJ a t)], s, (s33_eq _ _ _ _ _ _).trans ?_, rfl⟩)
  unfold s33
  simp only [qfu, qmh, hlk, hc, zbd, qj8, quy, qqk, qal, qaW, qay, qfD, qag, qbm, qbe, decide_false, Bool.not_false, qaa, cond_true, Option.map_some, Option.bind_some, qab, qah, qar, qas, qcV]
end Go.AI.Tryz
namespace Go.AI.Tryz
theorem qiI (sm : Int → Bool) (x : Sc) (t : Tm) (b : Int) : qdy sm x t b = (qdy qdg x t b).filter fun o => sm o.1 := by
 unfold qdy
 rw [List.filter_filterMap]
 congr 1
 funext i
 simp only [qdg, if_true]
 cases h : qbG i x t with
 | none => simp
 | some u =>
  simp only [Option.map_some, Option.filter]
theorem qgQ (sm : Int → Bool) : ∀ (l : List (Sc × Tm)) (b : Int), qeu sm b l = (qeu qdg b l).filter fun o => sm o.1
 | [], b => rfl
 | p :: r, b => by
  simp only [qeu, List.filter_append]
  rw [qiI, qgQ sm r]
theorem qo5 {sm sm' : Int → Bool} {l : List (Sc × Tm)} {b : Int} {o p : Of} (ho : o ∈ qeu sm b l) (hp : p ∈ qeu sm' b l) (h1 : o.1 = p.1) (h2 : o.2.1 = p.2.1) : o.2.2 = p.2.2 := by
 obtain ⟨j, q, i, a1, a2, _, a3, a4, _⟩ := qfW ho
 obtain ⟨j', q', i', b1, b2, _, b3, b4, _⟩ := qfW hp
 have hj : j = j' := by
  rw [a2, b2] at h2
  simp only [Int.ofNat_eq_natCast] at h2
  omega
 subst hj
 rw [a1, Option.some.injEq] at b1
 subst b1
 have hi : i = i' := by
  rw [a3, b3] at h1
  simp only [Int.ofNat_eq_natCast] at h1
  omega
 subst hi
 rw [a4, Option.some.injEq] at b4
 exact b4
theorem qqn {a : Ar} {t : Tm} {o : Of} (ho : o ∈ qeu qdg 0 (qbf t (qaD a))) : qj5 a t (o.1, o.2.1) = some (qdB o.2.2 o.2.1 t) := by
 have hm : o ∈ qeu (fun k => decide (k = o.1)) 0 (qbf t (qaD a)) := by
  rw [qgQ, List.mem_filter]
  exact ⟨ho, by simp⟩
 rw [qhM]
 cases hf : (qeu (fun k => decide (k = o.1)) 0 (qbf t (qaD a))).find? fun q => decide (q.1 = o.1) && decide (q.2.1 = o.2.1) with
 | none =>
  have := List.find?_eq_none.1 hf o hm
  simp at this
 | some q =>
  have h1 := List.mem_of_find?_eq_some hf
  have h2 := List.find?_some hf
  simp only [Bool.and_eq_true, decide_eq_true_eq] at h2
  rw [Option.map_some, qo5 h1 hm h2.1 h2.2]
inductive St (a : Ar) : Tm → List Rw → Tm → Prop where
 | nil (t) : St a t [] t
 | cons {t u : Tm} {o : Of} {r : List Of} {L : List Rw} (h : qeu qdg 0 (qbf t (qaD a)) = o :: r) (k : St a (qdB o.2.2 o.2.1 t) L u) : St a t ((o.1, o.2.1) :: L) u
theorem qo6 {a : Ar} : ∀ {m : Nat} {t : Tm} {log : List Rw} {r : Tm × List Rw × Int}, qiG a qdg m t log = r → r.2.2 = 0 ∧ (∃ L, r.2.1 = log ++ L ∧ St a t L r.1 ∧ L.length < m ∧ (log.length ≤ 2000 → log.length + L.length ≤ 2000) ∧ qeu qdg 0 (qbf r.1 (qaD a)) = []) ∨ r = (.z, [], 5)
 | 0, t, log, r, h => .inr (by rw [← h]; rfl)
 | m + 1, t, log, r, h => by
  rw [qeS] at h
  cases ho : qeu qdg 0 (qbf t (qaD a)) with
  | nil =>
   rw [ho] at h
   subst h
   exact .inl ⟨rfl, [], (List.append_nil _).symm, .nil _, Nat.zero_lt_succ _, fun h => h, ho⟩
  | cons o l =>
   rw [ho] at h
   unfold qsD at h
   simp only at h
   split at h
   ·exact .inr h.symm
   ·rename_i h20
    rcases qo6 h with ⟨h1, L, h2, h3, h4, h5, h6⟩ | h
    ·refine .inl ⟨h1, (o.1, o.2.1) :: L, by rw [h2, List.append_assoc]; rfl, .cons ho h3, by simp only [List.length_cons]; omega, fun hl => ?_, h6⟩
     have := h5 (by simp only [List.length_append, List.length_cons, List.length_nil]; omega)
     simp only [List.length_append, List.length_cons, List.length_nil] at this ⊢
     omega
    ·exact .inr h
theorem qo7 {a : Ar} : ∀ {L : List Rw} {t u : Tm} (log : List Rw) (m : Nat), St a t L u → qeu qdg 0 (qbf u (qaD a)) = [] → log.length + L.length ≤ 2000 → L.length < m → qiG a qdg m t log = (u, log ++ L, 0)
 | [], t, u, log, m, h, he, hl, hm => by
  cases h
  obtain ⟨m, rfl⟩ : ∃ k, m = k + 1 := ⟨m - 1, by omega⟩
  rw [qeS, he, List.append_nil]; rfl
 | w :: L, t, u, log, m, h, he, hl, hm => by
  cases h with
  | cons ho k =>
   rename_i o r
   obtain ⟨m, rfl⟩ : ∃ k, m = k + 1 := ⟨m - 1, by omega⟩
   simp only [List.length_cons] at hl hm
   rw [qeS, ho]
   unfold qsD
   simp only
   rw [if_neg (by omega), qo7 (log ++ [(o.1, o.2.1)]) m k he (by simp only [List.length_append, List.length_cons, List.length_nil]; omega) (by omega), List.append_assoc]
   rfl
theorem qlb {a : Ar} : ∀ {L : List Rw} {t u : Tm} (j : Nat), St a t L u → qiH a L t j = (u, .ofNat (j + L.length), 0)
 | [], t, u, j, h => by cases h; rfl
 | w :: L, t, u, j, h => by
  cases h with
  | cons ho k =>
   rename_i o r
   have := qqn (a := a) (t := t) (o := o) (by rw [ho]; exact List.mem_cons_self ..)
   unfold qiH
   rw [this]
   simp only
   rw [qlb (j + 1) k]
   simp only [List.length_cons]
   rw [show j + 1 + L.length = j + (L.length + 1) by omega]
theorem qmj {a : Ar} : ∀ {L : List Rw} {t u : Tm} (k : Nat), k ≤ L.length → St a t L u → ∃ w, St a t (L.take k) w ∧ St a w (L.drop k) u
 | L, t, u, 0, _, h => ⟨t, by rw [List.take_zero]; exact .nil t, h⟩
 | [], t, u, k + 1, hk, h => by simp at hk
 | w :: L, t, u, k + 1, hk, h => by
  cases h with
  | cons ho q =>
   obtain ⟨v, h1, h2⟩ := qmj k (by simpa using hk) q
   exact ⟨v, .cons ho h1, h2⟩
theorem qiJ {a : Ar} (h1 : a.ids.length ≤ 100000) : ∀ {L : List Rw} {t u : Tm}, St a t L u → Right a t → t.size ≤ 100000 → Right a u ∧ u.size ≤ t.size
 | [], t, u, h, hr, hs => by cases h; exact ⟨hr, Nat.le_refl _⟩
 | w :: L, t, u, h, hr, hs => by
  cases h with
  | cons ho k =>
   rename_i o r
   have := qla (o := o) (sm := qdg) hr h1 hs (by rw [ho]; exact List.mem_cons_self ..)
   have h2 := qiJ h1 k this.1 (by omega)
   exact ⟨h2.1, by omega⟩
end Go.AI.Tryz
namespace Go.AI.Tryz
theorem qo8 {c : Tm → Nat} {most : Nat} : ∀ (ks : List Tm) (a : Nat), a ≤ qkb c most a ks
 | [], a => Nat.le_refl _
 | t :: r, a => by
  simp only [qkb]
  split
  ·have := qo8 (c := c) (most := most) r (a + c t); omega
  ·exact Nat.le_refl _
theorem qgR (most : Nat) : ∀ (d : Nat) (t : Tm), 1 ≤ qgx most d t ∧ (qgx most d t ≤ most → qgx most d t = t.size)
 | 0, t => ⟨by simp only [qgx]; omega, fun h => by simp only [qgx] at h; omega⟩
 | d + 1, t => by
  simp only [qgx]
  refine ⟨qo8 t.ks 1, fun h => ?_⟩
  rw [qjM t.ks 1 (fun u _ => (qgR most d u).2) (fun u _ => (qgR most d u).1) h, Tm.size_ks t]
theorem qm0 {a : Ar} {t : Tm} (h : qmL a t = true) : a.ids.length ≤ 20 ∧ (∀ t ∈ a.ids, t.ps.length ≤ 20) ∧ t.size ≤ 700 := by
 simp only [qmL, Bool.and_eq_true, qmJ, decide_eq_true_eq, List.all_eq_true, qkN] at h
 refine ⟨h.1.1.1, h.1.1.2, ?_⟩
 have := (qgR 700 200 t).2 h.1.2
 omega
end Go.AI.Tryz
namespace Go.AI.Tryz
structure Lw (n : Nat) (e : Env) : Prop where
 o : ∀ f args s, f ≠ 12 → cl e f args s = cl (qae CP n []) f args s
 a : ∀ s, cl e 12 [] s = some (bl true, s)
theorem Lw.c {n : Nat} {e : Env} (h : Lw n e) {f : Nat} {args : List AVal} {r : AVal} (hf : f ≠ 12) (hc : ∀ E s, cl (qae CP n E) f args s = some (r, s)) : ∀ s, cl e f args s = some (r, s) := fun s => (h.o f args s hf).trans (hc [] s)
abbrev u16 (k : Nat) : AVal := .p (.int .u16 (.ofNat k))
theorem qt1 {k : Nat} (h : k < 65536) : qa8 .i64 (Int.ofNat k) = Int.ofNat k := qbT (by simp only [Int.ofNat_eq_natCast]; omega) (by simp only [Int.ofNat_eq_natCast]; omega)
end Go.AI.Tryz
namespace Go.AI
section
variable {P : Program}
theorem HasT.inv_int {n t pcs k} (h : HasT P n t pcs) (hu : P.underlying t = some (.int k)) : ∃ a, pcs = [.int k a] ∧ (Lit.int k a).wf = true := by
 cases h with
 | int ht a hw => rw [hu] at ht; cases ht; exact ⟨a, rfl, hw⟩
 | bool ht b => rw [hu] at ht; cases ht
 | str ht b _ => rw [hu] at ht; cases ht
 | sl ht _ _ _ => rw [hu] at ht; cases ht
 | struct ht _ _ _ => rw [hu] at ht; cases ht
theorem HasT.inv_bool {n t pcs} (h : HasT P n t pcs) (hu : P.underlying t = some .bool) : ∃ b, pcs = [.bool b] := by
 cases h with
 | bool ht b => exact ⟨b, rfl⟩
 | int ht a hw => rw [hu] at ht; cases ht
 | str ht b _ => rw [hu] at ht; cases ht
 | sl ht _ _ _ => rw [hu] at ht; cases ht
 | struct ht _ _ _ => rw [hu] at ht; cases ht
theorem HasT.inv_sl {n t pcs e} (h : HasT P n t pcs) (hu : P.underlying t = some (.slice e)) : ∃ (m : Nat) (ls : List (List PVal)), n = m + 1 ∧ pcs = [.sl ls.length ls.flatten] ∧ ls.length ≤ maxLen ∧ ∀ l ∈ ls, HasT P m e l := by
 cases h with
 | sl ht ls hl h => rw [hu] at ht; cases ht; exact ⟨_, ls, rfl, rfl, hl, h⟩
 | bool ht b => rw [hu] at ht; cases ht
 | int ht a hw => rw [hu] at ht; cases ht
 | str ht b _ => rw [hu] at ht; cases ht
 | struct ht _ _ _ => rw [hu] at ht; cases ht
theorem HasT.inv_struct {n t pcs fs} (h : HasT P n t pcs) (hu : P.underlying t = some (.struct fs)) : ∃ (m : Nat) (ls : List (List PVal)), n = m + 1 ∧ pcs = ls.flatten ∧ ls.length = fs.size ∧ ∀ (i : Nat) l f, ls[i]? = some l → fs[i]? = some f → HasT P m f.type l := by
 cases h with
 | struct ht ls hl h => rw [hu] at ht; cases ht; exact ⟨_, ls, rfl, rfl, hl, h⟩
 | bool ht b => rw [hu] at ht; cases ht
 | int ht a hw => rw [hu] at ht; cases ht
 | str ht b _ => rw [hu] at ht; cases ht
 | sl ht _ _ _ => rw [hu] at ht; cases ht
theorem qsp {w : World} {r : Reach} {base : Nat} {t : TypeId} {fs : Array Field} {v : Value} (hu : P.underlying t = some (.struct fs)) (ho : Value.okWide P w r base t v) : ∃ cs, v = .agg cs := by
 unfold Value.okWide at ho
 rw [hu] at ho
 obtain ⟨cs, h, _⟩ := ho
 exact ⟨cs, h⟩
theorem qiK {α : Type} {c : α → List PVal} {Q : α → Prop} : ∀ (ls : List (List PVal)), (∀ l ∈ ls, ∃ a, c a = l ∧ Q a) → ∃ zs : List α, zs.length = ls.length ∧ qaU c zs = ls.flatten ∧ ∀ a ∈ zs, Q a
 | [], _ => ⟨[], rfl, rfl, fun a h => by cases h⟩
 | l :: ls, h => by
  obtain ⟨a, ha, hq⟩ := h l (List.mem_cons_self ..)
  obtain ⟨zs, h1, h2, h3⟩ := qiK ls fun m hm => h m (List.mem_cons_of_mem _ hm)
  refine ⟨a :: zs, by simp [h1], by simp only [qaU, List.flatten_cons, ha, h2], fun b hb => ?_⟩
  rcases List.mem_cons.1 hb with rfl | hb
  ·exact hq
  ·exact h3 b hb
theorem quz {a : Int} (h : (Lit.int .i64 a).wf = true) : -9223372036854775808 ≤ a ∧ a ≤ 9223372036854775807 := by
 simp [Lit.wf, IntKind.min, IntKind.max, IntKind.signed, IntKind.bits] at h
 omega
theorem wf8 {a : Int} (h : (Lit.int .u8 a).wf = true) : 0 ≤ a ∧ a < 256 := by
 simp [Lit.wf, IntKind.min, IntKind.max, IntKind.signed, IntKind.bits] at h
 omega
theorem wf16 {a : Int} (h : (Lit.int .u16 a).wf = true) : 0 ≤ a ∧ a < 65536 := by
 simp [Lit.wf, IntKind.min, IntKind.max, IntKind.signed, IntKind.bits] at h
 omega
end
end Go.AI
namespace Go.AI.Tryz
open Go.Proofs
theorem qm1 (ks : List Tm) : qaU Tm.cells ks = Tm.cellsL ks := by
 induction ks with
 | nil => rfl
 | cons a r ih => simp only [qaU, Tm.cellsL, ih]
theorem qvv {α : Type} {l : List α} (h : l.length = 5) : ∃ a b c d e, l = [a, b, c, d, e] := by
 match l, h with
 | [a, b, c, d, e], _ => exact ⟨a, b, c, d, e, rfl⟩
theorem qvw {α : Type} {l : List α} (h : l.length = 3) : ∃ a b c, l = [a, b, c] := by
 match l, h with
 | [a, b, c], _ => exact ⟨a, b, c, rfl⟩
theorem qkg {α : Type} {l : List α} (h : l.length = 2) : ∃ a b, l = [a, b] := by
 match l, h with
 | [a, b], _ => exact ⟨a, b, rfl⟩
theorem has_tm : ∀ (n : Nat) (pcs : List PVal), HasT Go.Proofs.Tryz.prog n 29 pcs → ∃ t : Tm, t.cells = pcs ∧ t.Ok
 | 0, pcs, h => by cases h
 | n + 1, pcs, h => by
  obtain ⟨m, ls, hm, rfl, hl, hf⟩ := h.inv_struct Go.Proofs.Tryz.underlying29
  cases hm
  obtain ⟨a, b, c, d, e, rfl⟩ := qvv hl
  obtain ⟨k, rfl, wk⟩ := (hf 0 a _ rfl rfl).inv_int Go.Proofs.Tryz.underlying5
  obtain ⟨x, rfl, wx⟩ := (hf 1 b _ rfl rfl).inv_int Go.Proofs.Tryz.underlying3
  obtain ⟨y, rfl, wy⟩ := (hf 2 c _ rfl rfl).inv_int Go.Proofs.Tryz.underlying3
  obtain ⟨z, rfl, wz⟩ := (hf 3 d _ rfl rfl).inv_int Go.Proofs.Tryz.underlying3
  obtain ⟨m, rs, hm, rfl, hr, he⟩ := (hf 4 e _ rfl rfl).inv_sl Go.Proofs.Tryz.underlying27
  subst hm
  obtain ⟨ks, h1, h2, h3⟩ := qiK (c := Tm.cells) (Q := Tm.Ok) rs fun l hl => has_tm m l (he l hl)
  refine ⟨.mk k x y z ks, ?_, .mk (wf8 wk) (quz wx) (quz wy) (quz wz) (by rw [h1]; exact hr) h3⟩
  rw [qm1] at h2
  simp only [Tm.cells, h1, h2, List.flatten_cons, List.flatten_nil, List.cons_append, List.nil_append]
theorem qo9 {n : Nat} {pcs : List PVal} (h : HasT Go.Proofs.Tryz.prog n 24 pcs) : ∃ b : Bs, b.cells = pcs ∧ b.Ok := by
 obtain ⟨m, ls, rfl, rfl, hl, hf⟩ := h.inv_struct Go.Proofs.Tryz.underlying24
 obtain ⟨a, b, rfl⟩ := qkg hl
 obtain ⟨c, rfl⟩ := (hf 0 a _ rfl rfl).inv_bool Go.Proofs.Tryz.underlying4
 obtain ⟨x, rfl, wx⟩ := (hf 1 b _ rfl rfl).inv_int Go.Proofs.Tryz.underlying3
 exact ⟨⟨c, x⟩, rfl, quz wx⟩
theorem qt2 {n : Nat} {pcs : List PVal} (h : HasT Go.Proofs.Tryz.prog n 79 pcs) : ∃ t : Ty, t.cells = pcs ∧ t.Ok := by
 obtain ⟨m, ls, rfl, rfl, hl, hf⟩ := h.inv_struct Go.Proofs.Tryz.underlying79
 obtain ⟨a, b, rfl⟩ := qkg hl
 obtain ⟨m, rs, rfl, rfl, hr, he⟩ := (hf 0 a _ rfl rfl).inv_sl Go.Proofs.Tryz.underlying77
 obtain ⟨ps, h1, h2, h3⟩ := qiK (c := Bs.cells) (Q := Bs.Ok) rs fun l hl => qo9 (he l hl)
 obtain ⟨r, hrc, hro⟩ := qo9 (hf 1 b _ rfl rfl)
 refine ⟨⟨ps, r⟩, ?_, by show ps.length ≤ _; rw [h1]; exact hr, h3, hro⟩
 subst hrc
 show [PVal.sl ps.length (qaU Bs.cells ps), .bool r.cell, .int .i64 r.n] = _
 rw [h1, h2]
 rfl
theorem has_ar {n : Nat} {pcs : List PVal} (h : HasT Go.Proofs.Tryz.prog n 26 pcs) : ∃ a : Ar, a.cells = pcs ∧ a.Ok := by
 obtain ⟨m, ls, rfl, rfl, hl, hf⟩ := h.inv_struct Go.Proofs.Tryz.underlying26
 obtain ⟨a, b, c, rfl⟩ := qvw hl
 obtain ⟨m, rs, rfl, rfl, hr, he⟩ := (hf 0 a _ rfl rfl).inv_sl Go.Proofs.Tryz.underlying22
 obtain ⟨ids, h1, h2, h3⟩ := qiK (c := Ty.cells) (Q := Ty.Ok) rs fun l hl => qt2 (he l hl)
 obtain ⟨r, hrc, hro⟩ := qo9 (hf 1 b _ rfl rfl)
 obtain ⟨j, rfl⟩ := (hf 2 c _ rfl rfl).inv_bool Go.Proofs.Tryz.underlying4
 refine ⟨⟨ids, r, j⟩, ?_, by show ids.length ≤ _; rw [h1]; exact hr, h3, hro⟩
 subst hrc
 show [PVal.sl ids.length (qaU Ty.cells ids), .bool r.cell, .int .i64 r.n, .bool j] = _
 rw [h1, h2]
 rfl
theorem qsq {P : Program} {w : World} {n : Nat} {t : TypeId} {cs : Array Value} {pcs : List PVal} (h : qmF P w n t cs.toList pcs) : VR G00 w (.agg (pcs.map .p)) (.agg cs) := by
 obtain ⟨_, h1, h2, h3⟩ := h
 refine .agg _ _ (by rw [List.length_map, h1, Array.length_toList]) (fun v hv => h2 v (by simpa using hv)) fun i c v hc hv => ?_
 rw [List.getElem?_map, Option.map_eq_some_iff] at hc
 obtain ⟨p, hp, rfl⟩ := hc
 exact .p p v ((h3 i p v hp (by rw [Array.getElem?_toList]; exact hv)).mono fun ad u hu _ => ⟨hu, trivial⟩)
def qpa : List TypeId := [3, 4, 5, 22, 24, 26, 27, 29, 77, 79]
theorem m26 : 26 ∈ qpa := by simp [qpa]
theorem m29 : 29 ∈ qpa := by simp [qpa]
theorem lawTs_ok : qkE Go.Proofs.Tryz.prog qpa = true := by kernel_rfl
theorem arg_told {P : Program} {ts : List TypeId} (hok : qkE P ts = true) {t : TypeId} {fs : Array Field} (ht : t ∈ ts) (hu : P.underlying t = some (.struct fs)) {H : Type} {enc : TypeId × Value → H} {w : World} {base base' : Nat} {spare : Nat → Bool} {held : Bool} {r : Reach} {v : Value} {d : DataW H} {ps : List MemPlace} (ho : Value.okWide P w r base t v) (h : DataW.Trod enc P w base' spare held t v d ps) :
  ∃ n pcs, HasT P n t pcs ∧ VR G00 w (.agg (pcs.map .p)) v := by
 obtain ⟨cs, rfl⟩ := qsp hu ho
 obtain ⟨fuel, h⟩ := h
 obtain ⟨pcs, hp⟩ := qmG hok fuel t _ _ ht h
 exact ⟨fuel, pcs, hp.1, qsq hp⟩
end Go.AI.Tryz
namespace Go.AI
def tkO (s : ASt) (m : Nat) : Tk := match m with
 | 0 => .full
 | _ + 1 => .own s.ntok
def stO (s : ASt) (m sz : Nat) : ASt := match m with
 | 0 => s
 | m + 1 => { s with ntok := s.ntok + 1, toks := (s.ntok, m + 1, sz) :: s.toks }
theorem qt3 (e : Env) {sz b m : Nat} {cs : List PVal} (s : ASt) (hl : cs.length = m * sz) (hb : m * b ≤ 140737488355328) : ap e sz b (.sl 0 [] .full) (.p (.sl m cs)) s = some (.sl m cs (tkO s m), stO s m sz) := by
 unfold ap stV
 have h1 : Nat.ble ((0 + m) * b) 140737488355328 = true := ble_iff.2 (by rw [Nat.zero_add]; exact hb)
 have h2 : Nat.beq cs.length (m * sz) = true := qaz hl
 have h3 : Nat.beq ([] : List PVal).length (0 * sz) = true := qaz (by simp)
 simp only [qaB, Arg.ev, qcU, Option.bind_some, h1, h2, h3, Bool.and_self, cond_true]
 cases m with
 | zero =>
  rw [Nat.zero_mul] at hl
  have : cs = [] := List.length_eq_zero_iff.1 hl
  subst this
  rfl
 | succ m =>
  simp only [Nat.beq, cond_false, Nat.zero_add, List.nil_append]
  rfl
end Go.AI
namespace Go.AI.Tryz
theorem qpb (l : List Rw) (k : Nat) : (qaU rwC l).take (k * 2) = qaU rwC (l.take k) ∧ (qaU rwC l).drop (k * 2) = qaU rwC (l.drop k) := by
 induction l generalizing k with
 | nil => simp [qaU]
 | cons a r ih =>
  cases k with
  | zero => simp [qaU]
  | succ k =>
   have : (k + 1) * 2 = k * 2 + 1 + 1 := by omega
   simp only [qaU, rwC, List.take_succ_cons, List.drop_succ_cons, List.cons_append, List.nil_append, this, (ih k).1, (ih k).2, and_self]
theorem qvx (l : List Rw) (k : Nat) (h : k ≤ l.length) : sl 2 (qfd l) none (some (.c (i64 (.ofNat k)))) = some (qfd (l.take k)) := by
 have h0 : (qaU rwC l).length = l.length * 2 := qcH (c := rwC) (fun _ => rfl) l
 have h1 : Nat.ble k l.length = true := ble_iff.2 h
 have h2 : Nat.ble (k * 2) (l.length * 2) = true := ble_iff.2 (by omega)
 have h3 : Nat.ble 0 k = true := ble_iff.2 (Nat.zero_le _)
 unfold sl pu
 simp only [qax, Arg.ev, qcU, qfY, qfw, Option.bind_some, h0, h1, h2, Bool.and_self, cond_true, Nat.zero_mul, qb0, qb1, List.drop_zero, Nat.sub_zero, (qpb l k).1, h3]
 simp only [qfd, List.length_take, Nat.min_eq_left h]
theorem qvy (l : List Rw) (k : Nat) (h : k ≤ l.length) : sl 2 (qfd l) (some (.c (i64 (.ofNat k)))) none = some (qfd (l.drop k)) := by
 have h0 : (qaU rwC l).length = l.length * 2 := qcH (c := rwC) (fun _ => rfl) l
 have h1 : Nat.ble k l.length = true := ble_iff.2 h
 have h2 : Nat.ble (l.length * 2) (l.length * 2) = true := ble_iff.2 (Nat.le_refl _)
 have h3 : Nat.ble l.length l.length = true := ble_iff.2 (Nat.le_refl _)
 have h4 : (qaU rwC (l.drop k)).length = (l.length - k) * 2 := by rw [qcH (c := rwC) (sz := 2) (fun _ => rfl), List.length_drop]
 unfold sl pu
 simp only [qax, Arg.ev, qcU, qfY, qfw, Option.bind_some, h0, h1, h2, h3, Bool.and_self, cond_true, qb0, qb1, (qpb l k).2]
 rw [List.take_of_length_le (by omega)]
 simp only [qfd, List.length_drop]
theorem qpc (l : List Rw) : (qaU rwC l).length = l.length * 2 := qcH (c := rwC) (fun _ => rfl) l
theorem quA (a b c : AVal) : qeb [a, b, c] 0 = some a := rfl
theorem quB (a b c : AVal) : qeb [a, b, c] 1 = some b := rfl
theorem quC (a b c : AVal) : qeb [a, b, c] 2 = some c := rfl
theorem end2 {e : Env} (n : Nat) (s : ASt) {a : Ar} {u w : Tm} {L R : List Rw} {k : Nat} (hk : k ≤ L.length) (hA : ∀ s, cl e 14 [a.v] s = some (a.v, s)) (h13 : ∀ s, cl e 13 [a.v, w.v] s = some (qiL (u, L.drop k, 0), s)) (hs : ∀ s, cl e 19 [u.v, u.v] s = some (bl true, s))
  (hl : ∀ s, cl e 20 [qfd (L.drop k), qfd (L.drop k)] s = some (bl true, s)) (h12 : ∀ s, cl e 12 [] s = some (bl true, s)) : s9_2 e n s (ac a) w.c u.c (qfd L) (i64 (.ofNat k)) (bl false) = some (bl true, s) := by
 unfold s9_2 s9_1
 simp only [qmh, hA, h13, hs, hl, h12, quA, quB, quC, qvy L k hk, qal, qaW, qaC, qag, qaq, decide_true, qaa, cond_true, cond_false, qav, Option.map_some, Option.bind_some, qab, qah]
theorem end3 {e : Env} (n : Nat) (s : ASt) {a : Ar} {t u w : Tm} {L : List Rw} (c : Nat) (hc : c < 65536) (hL : L.length ≤ 2000) {k : Nat} (hk : k = c % (L.length + 1)) (hA : ∀ s, cl e 14 [a.v] s = some (a.v, s)) (hT : ∀ s, cl e 15 [t.v] s = some (t.v, s))
  (h33 : ∀ s', cl e 33 [a.v, t.v, .sl (L.take k).length (qaU rwC (L.take k)) (tkO s (L.take k).length)] s' = some (qph (w, .ofNat k, 0), s')) {s' : ASt} (hs' : s' = stO s (L.take k).length 2) (h2 : s9_2 e n s' (ac a) w.c u.c (qfd L) (i64 (.ofNat k)) (bl false) = some (bl true, s')) :
  s9_3 e n (u16 c) (qfd L) (ac a) t.c u.c (bl false) s = some (bl true, s') := by
 have hk1 : k ≤ L.length := by rw [hk]; have := Nat.mod_lt c (show 0 < L.length + 1 by omega); omega
 have hcv : cv .i64 (u16 c) = some (i64 (.ofNat c)) := by rw [qjJ, qt1 hc]
 have hap := qt3 e (sz := 2) (b := 16) s (qpc (L.take k)) (by rw [List.length_take]; omega)
 have hrem : (Int.ofNat c).tmod (Int.ofNat (L.length + 1)) = Int.ofNat k := by rw [hk]; rfl
 have hm0 : Int.ofNat (L.length + 1) ≠ 0 := by simp only [Int.ofNat_eq_natCast]; omega
 unfold s9_3
 generalize s9_2 e n = G at h2
 subst hs'
 simp only [qmh, hA, hT, hcv, qgw _ _ _ hm0, hrem, qa7 (show L.length < 9223372036854775807 by omega), qvx L k hk1, hap, h33, h2, quA, quB, quC, qal, qaW, qaC, qag, qbm, qaH, decide_true, Bool.not_true, qaa, cond_false, qav, Option.map_some, Option.bind_some, qab, qah, qcV]
theorem end4 {e : Env} (n : Nat) (s : ASt) {a : Ar} {t u : Tm} {L : List Rw} (c : Nat) (hL : L.length ≤ 2000) (hA : ∀ s, cl e 14 [a.v] s = some (a.v, s)) (hT : ∀ s, cl e 15 [t.v] s = some (t.v, s)) (hU : ∀ s, cl e 15 [u.v] s = some (u.v, s)) (h13 : ∀ s, cl e 13 [a.v, t.v] s = some (qiL (u, L, 0), s))
  (h27 : ∀ s, cl e 27 [a.v, u.v] s = some (.tuple [.p (.sl 0 []), i64 0], s)) {s1 : ASt} (hs1 : s1 = stO s L.length 2) (h33 : ∀ s', cl e 33 [a.v, t.v, .sl L.length (qaU rwC L) (tkO s L.length)] s' = some (qph (u, .ofNat L.length, 0), s'))
  (hs : ∀ s, cl e 19 [u.v, u.v] s = some (bl true, s)) {r : AVal × ASt} (h3 : s9_3 e n (u16 c) (qfd L) (ac a) t.c u.c (bl false) s1 = some r) :
  s9_4 e n (ac a) t.c (u16 c) (bl false) s = some r := by
 have hap := qt3 e (sz := 2) (b := 16) s (qpc L) (by omega)
 have l0 : ln false (.p (.sl 0 [])) = some (i64 0) := rfl
 have hln : ln false (qfd L) = some (i64 (.ofNat L.length)) := qcV _ _
 unfold s9_4
 generalize s9_3 e n = G at h3
 generalize s9_0 e n = G0
 subst hs1
 simp -implicitDefEqProofs only [qmh, hA, hT, hU, h13, h27, hap, h33, hs, l0, h3, quA, quB, quC, qal, qaW, qaC, qag, qaq, qbm, Int.reduceEq, decide_true, decide_false, Bool.not_true, qaa, cond_false, qav, Option.map_some, Option.bind_some, qab, qah, qar, qas, qau, qcV]
theorem quD {e : Env} (n : Nat) (s : ASt) {a : Ar} {t : Tm} {x : AVal} {b : Bool} {er : Int} (h11 : ∀ s, cl e 11 [a.v, t.v] s = some (bl b, s))
  (h31 : b = true → ∀ s, cl e 31 [a.v, t.v] s = some (i64 er, s)) (hT : b = true → ∀ s, cl e 15 [t.v] s = some (t.v, s)) (hA : b = true → ∀ s, cl e 14 [a.v] s = some (a.v, s)) : s9 e n a.v t.v x s = s9_4 e n (ac a) t.c x (bl (!(b && decide (er = 0)))) s := by
 unfold s9
 generalize s9_4 e n = G
 cases b with
 | false => simp only [qfu, qmh, h11, Bool.false_and, qal, qaW, Bool.not_false, qaa, cond_true, qav, Option.bind_some, qab, qau]
 | true =>
  have h31 := h31 rfl
  have hT := hT rfl
  have hA := hA rfl
  simp only [qfu, qmh, hA, hT, h11, h31, Bool.true_and, qal, qaW, qag, qbm, Bool.not_true, qaa, cond_false, qav, Option.map_some, Option.bind_some, qab, qau]
theorem end5 {e : Env} (n : Nat) (s : ASt) {a : Ar} {t u : Tm} {l : AVal} {x : AVal} (hA : ∀ s, cl e 14 [a.v] s = some (a.v, s)) (hT : ∀ s, cl e 15 [t.v] s = some (t.v, s)) (h13 : ∀ s, cl e 13 [a.v, t.v] s = some (.tuple [u.v, l, i64 5], s)) (h12 : ∀ s, cl e 12 [] s = some (bl true, s)) :
  s9_4 e n (ac a) t.c x (bl false) s = some (bl true, s) := by
 unfold s9_4 s9_0
 generalize s9_3 e n = G
 simp -implicitDefEqProofs only [qmh, hA, hT, h13, h12, quA, quB, quC, qal, qaW, qaC, qag, qaq, qbm, Int.reduceEq, decide_true, decide_false, Bool.not_false, qaa, cond_true, cond_false, qav, Option.map_some, Option.bind_some, qab, qah]
theorem qvK {e : Env} (n : Nat) (s : ASt) {a : Ar} {t : Tm} {x : AVal} (h12 : ∀ s, cl e 12 [] s = some (bl true, s)) : s9_4 e n (ac a) t.c x (bl true) s = some (bl true, s) := by
 unfold s9_4
 generalize s9_3 e n = G
 simp -implicitDefEqProofs only [h12, qaW, qaa, cond_true, qav, Option.bind_some, qab]
end Go.AI.Tryz
namespace Go.AI.Tryz
theorem end_ev (a : Ar) (t : Tm) (c : Nat) (hc : c < 65536) (oa : a.Ok) (ok : t.Ok) : Ev fun n => ∀ e, Lw n e → ∃ s', s9 e n a.v t.v (u16 c) s00 = some (bl true, s') := by
 have hth := qtj a t oa ok
 cases hb : qmL a t with
 | false =>
  rw [hb] at hth
  exact hth.mono fun n h11 e he => ⟨s00, (quD (er := 0) n s00 (he.c (by decide) h11) (fun h => nomatch h) (fun h => nomatch h) (fun h => nomatch h)).trans (qvK n s00 he.a)⟩
 | true =>
  rw [hb] at hth
  obtain ⟨h1, h2, h3⟩ := qm0 hb
  have hA := qrC a (by omega) (fun t ht => by have := h2 t ht; omega)
  have hT := qqI t (by omega)
  have hC := qoj a t oa ok (by omega) (by omega)
  by_cases hz : qbJ a t = 0
  ·have hall := qo2 a t oa ok (by omega) (by omega)
   have e1 : qsE a t = qiG a qdg 2001 t [] := by unfold qsE; rw [if_pos hz]
   have hcase := qo6 (a := a) (m := 2001) (t := t) (log := []) rfl
   generalize hR : qiG a qdg 2001 t [] = R at hcase e1
   rw [e1] at hall
   rw [hz] at hC
   have hpre := (hth.and (hA.and (hT.and (hC.and hall))))
   obtain ⟨u, lg, er⟩ := R
   rcases hcase with ⟨he, L, hL, hst, hlt, hle, hend⟩ | hlim
   ·simp only at he hL hst hend
    rw [List.nil_append] at hL
    subst he hL
    have hl0 : lg.length ≤ 2000 := by have := hle (Nat.zero_le _); simpa using this
    have hur := qiJ (by omega) hst ⟨hz, ok⟩ (by omega)
    have hoff := qmT a u oa hur.1.ok (by omega) (by omega)
    have hof : qgN a u = ([], 0) := by
     unfold qgN
     rw [if_pos hur.1.c]
     show ((qiC a u).map _, _) = _
     rw [show qiC a u = [] from hend]
     rfl
    rw [hof] at hoff
    let k := c % (lg.length + 1)
    have hk : k ≤ lg.length := by have := Nat.mod_lt c (show 0 < lg.length + 1 by omega); omega
    obtain ⟨w, hw1, hw2⟩ := qmj k hk hst
    have hwr := qiJ (by omega) hw1 ⟨hz, ok⟩ (by omega)
    have hkl : (lg.take k).length = k := by rw [List.length_take]; omega
    have hr1 := qq0 a t lg (.sl lg.length (qaU rwC lg) (tkO s00 lg.length)) rfl rfl (by omega) oa ok (by omega) (by omega)
    have f1 : qmZ a t lg = (u, .ofNat lg.length, 0) := by
     unfold qmZ
     rw [if_pos hz, if_neg (by omega), qlb 0 hst, Nat.zero_add]
    rw [f1] at hr1
    have hr2 := qq0 a t (lg.take k) (.sl (lg.take k).length (qaU rwC (lg.take k)) (tkO (stO s00 lg.length 2) (lg.take k).length)) rfl rfl (by omega) oa ok (by omega) (by omega)
    have f2 : qmZ a t (lg.take k) = (w, .ofNat k, 0) := by
     unfold qmZ
     rw [if_pos hz, if_neg (by omega), qlb 0 hw1, Nat.zero_add, hkl]
    rw [f2] at hr2
    have hal2 := qo2 a w oa hwr.1.ok (by omega) (by omega)
    have f3 : qsE a w = (u, lg.drop k, 0) := by
     unfold qsE
     rw [if_pos hwr.1.c, qo7 [] 2001 hw2 hend (by rw [List.length_drop]; simp only [List.length_nil]; omega) (by rw [List.length_drop]; omega), List.nil_append]
    rw [f3] at hal2
    have hsl := qo3 (lg.drop k) (lg.drop k) (by rw [List.length_drop]; omega) (by rw [List.length_drop]; omega)
    refine (hpre.and ((hoff.and (hr1.and (hr2.and hal2))).and (hsl.and ((qtf u u hur.1.ok).and (qqI u (by omega)))))).mono fun n ⟨⟨h11, hA, hT, h31, h13⟩, ⟨h27, hr1, hr2, hal2⟩, hsl, hsm, hU⟩ e he => ?_
    have h13 := he.c (by decide) h13
    have h27 := he.c (by decide) h27
    have hA := he.c (by decide) hA
    have hT := he.c (by decide) hT
    have hU := he.c (by decide) hU
    have hr1 := he.c (by decide) hr1
    have hr2 := he.c (by decide) hr2
    have hal2 := he.c (by decide) hal2
    have hsl := he.c (by decide) hsl
    have hsm := he.c (by decide) hsm
    rw [decide_eq_true rfl] at hsl hsm
    have g2 := end2 n (stO (stO s00 lg.length 2) (lg.take k).length 2) (L := lg) (R := []) hk hA hal2 hsm hsl he.a
    have g3 := end3 n (stO s00 lg.length 2) c hc hl0 (k := k) rfl hA hT hr2 rfl g2
    have g4 := end4 n s00 c hl0 hA hT hU h13 h27 rfl hr1 hsm g3
    exact ⟨_, (quD (er := 0) n s00 (he.c (by decide) h11) (fun _ => he.c (by decide) h31) (fun _ => hT) (fun _ => hA)).trans g4⟩
   ·simp only [Prod.mk.injEq] at hlim
    obtain ⟨rfl, rfl, rfl⟩ := hlim
    refine hpre.mono fun n ⟨h11, hA, hT, h31, h13⟩ e he => ?_
    have h13 := he.c (by decide) h13
    have hA := he.c (by decide) hA
    have hT := he.c (by decide) hT
    exact ⟨_, (quD (er := 0) n s00 (he.c (by decide) h11) (fun _ => he.c (by decide) h31) (fun _ => hT) (fun _ => hA)).trans (end5 n s00 hA hT h13 he.a)⟩
  ·refine (hth.and (hA.and (hT.and hC))).mono fun n ⟨h11, hA, hT, h31⟩ e he => ?_
   have hA := he.c (by decide) hA
   have hT := he.c (by decide) hT
   have hx := quD n s00 (x := u16 c) (he.c (by decide) h11) (fun _ => he.c (by decide) h31) (fun _ => hT) (fun _ => hA)
   rw [decide_eq_false hz] at hx
   exact ⟨_, hx.trans (qvK n s00 he.a)⟩
end Go.AI.Tryz
