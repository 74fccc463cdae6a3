/- Part 6: what the functions of the program compute, function by function. No condition. -/
import Derived.Test.YtgecccghlgpmjaaGreatPe
set_option linter.unusedVariables false
set_option linter.unusedSimpArgs false
namespace Go.AI
theorem qdP {E : qaJ} {s s' : ASt} {l : Nat} (h : s'.heap = s.heap) : qaj E s' l = qaj E s l := by unfold qaj; rw [h]
def qcg (E H : qaJ) (l : Nat) : Option (List AVal) := qaj E ⟨0, H, 0, []⟩ l
end Go.AI
namespace Go.AI.Tryz
theorem qhG {E : qaJ} {s : ASt} {l N : Nat} {a b : HObj} {H : qaJ} (h : s.heap = (N + 1, a) :: (N, b) :: H) (hl : l < N) : qaj E s l = qcg E H l := by
 rw [qa0 h (by omega), qa0 (s := { s with heap := (N, b) :: H }) rfl (by omega)]
 rfl
def qjX (ar : Int) (t : Tm) (_ : Int) : Bool := decide (t.k = 2) || (decide (t.k = 12) || (decide (0 < t.i) && !decide (ar < t.i)))
theorem qtC (y : Vw) : UC 158 (fun p : Q × Nat => [p.1.1.v, i64 p.1.2, .ptr p.2 0]) (fun p E s => qaj E s p.2 = some y.c) (fun p => bl (qjX y.ar p.1.1 p.1.2)) := by
 refine UC.of (cf := cf158) (np := 3) (by kernel_rfl) (by kernel_rfl) (fun _ => rfl) (fun _ => by simp only [List.all_cons, qan]; rfl) (fun _ => by simp only [List.map_cons, qao]; rfl) (fun p => Stab.at p.2 _) (fun p lo => rfl) (Ev.of fun n p E s hc => ⟨bl (qjX y.ar p.1.1 p.1.2), s, (s158_eq _ _ _ _ _ _).trans ?_, rfl⟩)
 have hc' : qaj (qae CP n E).E s p.2 = some y.c := by rw [qaQ]; exact hc
 unfold s158 s158_0 qjX
 by_cases h2 : p.1.1.k = 2
 ·simp only [h2, Bool.true_or, qal, qgC, qkR, qag, qaq, qbe, Int.reduceEq, decide_true, decide_false, qaa, cond_true, cond_false, qav, Option.map_some, Option.bind_some, qbH]
 ·by_cases h12 : p.1.1.k = 12
  ·simp only [h12, Bool.true_or, Bool.false_or, qal, qgC, qkR, qag, qaq, qbe, Int.reduceEq, decide_true, decide_false, qaa, cond_true, cond_false, qav, Option.map_some, Option.bind_some, qbH]
  ·by_cases h0 : 0 < p.1.1.i
   ·simp only [h2, h12, h0, ldP hc', Nat.zero_add, Bool.false_or, Bool.true_and, qal, qgC, qkR, qol, qag, qaq, qbe, qep, decide_true, decide_false, qaa, cond_true, cond_false, qav, Option.map_some, Option.bind_some, qbH]
   ·simp only [h2, h12, h0, Bool.false_or, Bool.false_and, qal, qgC, qkR, qag, qaq, qbe, decide_false, qaa, cond_false, qav, Option.map_some, Option.bind_some, qbH]
def qes (x : Sc) (t : Tm) : Option Tm := if t.k = 18 then (match t.ks with | [u] => if !u.any (qjX x.top) 0 then some u else none | _ => none) else none
theorem qhH (x : Vw) : qaX (some x.c) (some x.c) = true := by
 simp only [qaX, Vw.c, qdi, qiq, Bool.and_self]
theorem qr3 {e : Env} {s : ASt} {l : Nat} {x : Vw} (h : qaj e.E s l = some x.c) : loadFrom e.E .nil s (.ptr l 0) 7 = some x.c := by
 simp only [loadFrom, h, Option.bind_some]
 rfl
theorem qqb (x : Sc) (t : Tm) (g : Gd x t) (hs : t.size ≤ 900000) : RuC 91 x t (qes x t) := by
 have p124 : qcA CP 124 = true := by kernel_rfl
 by_cases hk : t.k = 18
 ·cases g.sh with
  | ntc n0 i u =>
   have e : qes x (.ntc n0 i u) = if !u.any (qjX x.top) 0 then some u else none := rfl
   rw [e]
   clear e
   have su : u.size < (Tm.ntc n0 i u).size := qa4 (by simp [Tm.ks])
   let y := vw x (.ntc n0 i u)
   have his : Ev fun n => IsC (ι := Nat) (fun l => .func 158 [] [.ptr l 0]) (fun (q : Unit) t l => (q, qjX x.top t l)) (fun l _ E H N => qcg E H l = some y.c ∧ l < N) (fun _ => True) n u.size := by
    refine ((qtC y).and (Ev.ge 1)).mono fun n ⟨h, hn⟩ l q E H N a b s t' l' _ _ _ h1 h2 ⟨h3, h4⟩ => ⟨s, H, ?_, h1, h2, ⟨h3, h4⟩, TF.refl s⟩
    rw [qg7 CP hn]
    exact h ((t', l'), l) E s (by show qaj _ _ _ = _; rw [qhG h1 h4]; exact h3)
   refine RuC.of (cf := cf91) (by kernel_rfl) (by kernel_rfl) (((qcW y 18).and ((qgH (Ad := fun _ => True) (fun _ => rfl) (fun _ => rfl) (fun _ => rfl) (fun _ => rfl) u (by omega) trivial (fun _ _ _ _ => trivial) his (fun _ _ _ _ _ _ h hn => ⟨h.1, Nat.lt_of_lt_of_le h.2 hn⟩)).and (qcO (!u.any (qjX x.top) 0) 133 y u fun _ => qe9 _ u rfl))).mono fun N ⟨h1, h2, h3⟩ E s => ?_)
   obtain ⟨i0, l0⟩ := qcT (n := N) (E := E) (l := [u]) (u := u) rfl
   let s4 := qaf s (.cells y.c)
   obtain ⟨s', H', e1, e2, ⟨e3, e4⟩, e5, e6⟩ := h2 s.next () E s4 ⟨qaI _ _ _, Nat.lt_succ_self _⟩
   rw [ql4] at e1 e2
   have hc4 : qaj (qae CP N E).E s4 s.next = some y.c := by rw [qaQ]; exact qaI _ _ _
   have hc' : qaj (qae CP N E).E s' s.next = some y.c := by
    rw [qaQ, qhG e2 (by show s.next < s.next + 1; omega)]
    exact e3
   refine ⟨s', (s91_eq _ _ _ _).trans ?_⟩
   unfold s91 s91_0
   have hy : vw x (.ntc n0 i u) = y := rfl
   have hyt : y.t = .ntc n0 i u := rfl
   simp only [s4] at e1 hc4
   have haw : y.c.all qaK = true := rfl
   simp only [hy, hyt, h1, i0, l0, e1, ldP hc', qr3 hc4, qr3 hc', qhH, qix, p124, qkU, h3, Bool.true_or, Bool.or_true, Bool.and_self, qal, qaW, qaC, qay, qbR, qbV, qcI, decide_true, qaa, cond_true, qav, Option.bind_some, qab, qah, qar, qas, qau, qaS, qbg, cnd, qci, Tm.k_mk, Tm.ks_mk, qaw]
  | _ => simp only [Tm.k_mk] at hk; omega
 ·have e : qes x t = none := by unfold qes; rw [if_neg hk]
  rw [e]
  refine RuC.of (cf := cf91) (by kernel_rfl) (by kernel_rfl) (((qcW (vw x t) 18).and (qcO false 133 (vw x t) .z fun h => nomatch h)).mono fun N ⟨h1, h3⟩ E s => ?_)
  have hc4 : qaj (qae CP N E).E (qaf s (.cells (vw x t).c)) s.next = some (vw x t).c := by rw [qaQ]; exact qaI _ _ _
  refine ⟨qaf s (.cells (vw x t).c), (s91_eq _ _ _ _).trans ?_⟩
  unfold s91 s91_0
  simp only [h1, h3, hk, qr3 hc4, qhH, qix, p124, qkU, Bool.true_or, Bool.or_true, Bool.and_self, Bool.false_eq_true, if_false, qal, qaW, qaC, qay, qbR, qbV, qcI, vwt, decide_false, qaa, cond_false, qav, Option.bind_some, qab, qah, qar, qas, qaS, qbg, cnd, qci, qaw, Option.getD_none, Option.isSome_none]
structure Nm where
 a : Bool
 p : Bool
 h : Bool
def Nm.c (y : Nm) : List AVal := [bl y.a, bl y.p, bl y.h]
def Nm.v (y : Nm) : AVal := .agg [bl y.a, bl y.p, bl y.h]
def isA (id : Int) (t : Tm) (_ : Int) : Bool := decide (t.i = id) && decide (t.k = 3)
def isP (id : Int) (t : Tm) (_ : Int) : Bool := decide (t.i = id) && (decide (t.k = 4) || decide (t.k = 18))
def isH (id : Int) (t : Tm) (_ : Int) : Bool := decide (t.i = id) && decide (t.k = 16)
def qqR (id : Int) (y : Nm) (t : Tm) (l : Int) : Nm := ⟨y.a || isA id t l, y.p || isP id t l, y.h || isH id t l⟩
def qft (id : Int) (t : Tm) : Nm := ⟨t.any (isA id) 0, t.any (isP id) 0, t.any (isH id) 0⟩
theorem qow (id : Int) : ∀ (d : Nat) (y : Nm) (t : Tm) (l : Int), t.size ≤ d → (qcz (qdt fun y t l => (qqR id y t l, false)) d (y, false) t l).1 = (⟨y.a || t.any (isA id) l, y.p || t.any (isP id) l, y.h || t.any (isH id) l⟩, false)
 | 0, y, t, l, h => by have := Tm.size_pos t; omega
 | d + 1, y, t, l, h => by
  have hk : ∀ (ks : List Tm) (j : Nat) (y : Nm), (∀ u ∈ ks, u.size ≤ d) → (qeU (qcz (qdt fun y t l => (qqR id y t l, false)) d) (decide (t.k = 11)) l j (y, false) ks).1 = (⟨y.a || Tm.anyK (isA id) (decide (t.k = 11)) l j ks, y.p || Tm.anyK (isP id) (decide (t.k = 11)) l j ks, y.h || Tm.anyK (isH id) (decide (t.k = 11)) l j ks⟩, false) := by
   intro ks
   induction ks with
   | nil => intro j y _; simp only [qeU, Tm.anyK, Bool.or_false]
   | cons u r ih =>
    intro j y hu
    simp only [qeU, Tm.anyK]
    rw [qow id d _ u _ (hu u (List.mem_cons_self ..)), ih (j + 1) _ fun v hv => hu v (List.mem_cons_of_mem _ hv)]
    simp only [Bool.or_assoc]
  unfold qcz
  simp only [qdt, Bool.false_eq_true, if_false, Bool.not_false, if_true]
  rw [hk t.ks 0 _ (fun u hu => by
   have := Tm.sizeL_mem hu
   rw [Tm.size_ks t] at h; omega), Tm.any_eq (isA id), Tm.any_eq (isP id), Tm.any_eq (isH id)]
  simp only [qqR, Bool.or_assoc]
abbrev nmH (l : Nat) (id : Int) (H0 : qaJ) (y : Nm) : qaJ := (l + 1, .cells y.c) :: (l, .cells [i64 id]) :: H0
theorem qqc (id : Int) (d : Nat) : Ev fun n => IsC (ι := Nat × qaJ) (fun p => .func 203 [] [.ptr p.1 0, .ptr (p.1 + 1) 0]) (fun y t l => (qqR id y t l, false)) (fun p y E H N => H = nmH p.1 id p.2 y ∧ p.1 + 1 < N) (fun _ => True) n d := by
 refine Ev.succ ((Ev.ge 0).mono fun n _ p y E H N a b s t l _ _ _ h1 h2 ⟨h3, h4⟩ => ?_)
 obtain ⟨lp0, H0⟩ := p
 simp only at h3 h4
 subst h3
 let S : Nm → ASt := fun y => { s with heap := (N + 1, a) :: (N, b) :: nmH lp0 id H0 y }
 have hS : s = S y := by
  show s = { s with heap := _ }
  rw [← h1]
 have hc5 : ∀ y, qaj (qae CP n E).E (S y) lp0 = some [i64 id] := fun y => by
  rw [qaQ, qhG (s := S y) rfl (by omega)]
  have : qaj E ⟨0, nmH lp0 id H0 y, 0, []⟩ lp0 = _ := qa0 rfl (by omega)
  rw [qcg, this]
  exact qaT rfl
 have hc7 : ∀ y, qaj (qae CP n E).E (S y) (lp0 + 1) = some y.c := fun y => by
  rw [qaQ, qhG (s := S y) rfl (by omega)]
  exact qaT rfl
 have hst : ∀ (y y' : Nm) (o : Nat) (v : AVal), qaK v = true → over y.c o [v] = some y'.c → stH (S y) (.ptr (lp0 + 1) o) [v] = some (S y') := by
  intro y y' o v hv ho
  have b1 : Nat.beq (N + 1) (lp0 + 1) = false := beq_false (by omega)
  have b2 : Nat.beq N (lp0 + 1) = false := beq_false (by omega)
  simp only [stH, qbu, S, nmH, qam, qaF, b1, b2, qaz rfl, cond_false, cond_true, List.all_cons, List.all_nil, hv, Bool.and_self, ho, Option.bind_some, Option.map_some]
 have hrun : s203 (qae CP n E) n t.v (i64 l) (.ptr lp0 0) (.ptr (lp0 + 1) 0) (S y) = some (bl false, S (qqR id y t l)) := by
  have sa : ∀ (y : Nm) (v : Bool), stH (S y) (.ptr (lp0 + 1) 0) [bl v] = some (S ⟨v, y.p, y.h⟩) := fun y v => hst y ⟨v, y.p, y.h⟩ 0 _ rfl rfl
  have sp : ∀ (y : Nm) (v : Bool), stH (S y) (.ptr (lp0 + 1) 1) [bl v] = some (S ⟨y.a, v, y.h⟩) := fun y v => hst y ⟨y.a, v, y.h⟩ 1 _ rfl rfl
  have sh : ∀ (y : Nm) (v : Bool), stH (S y) (.ptr (lp0 + 1) 2) [bl v] = some (S ⟨y.a, y.p, v⟩) := fun y v => hst y ⟨y.a, y.p, v⟩ 2 _ rfl rfl
  have l0 : ∀ y : Nm, ldL y.c 0 none = some (bl y.a) := fun _ => rfl
  have l1 : ∀ y : Nm, ldL y.c 1 none = some (bl y.p) := fun _ => rfl
  have l2 : ∀ y : Nm, ldL y.c 2 none = some (bl y.h) := fun _ => rfl
  unfold s203 s203_3 s203_2 s203_1 s203_0 qqR isA isP isH
  by_cases hid : t.i = id
  ·obtain ⟨ya, yp, yh⟩ := y
   by_cases k3 : t.k = 3 <;> by_cases k4 : t.k = 4 <;> by_cases k18 : t.k = 18 <;> by_cases k16 : t.k = 16 <;> cases ya <;> cases yp <;> cases yh <;>
    first
    | (exfalso; omega)
    | simp only [hid, k3, k4, k18, k16, ldP (hc5 _), ldP (hc7 _), l0, l1, l2, qb4, sa, sp, sh, qbd, Nat.zero_add, Bool.or_true, Bool.or_false, Bool.true_and, Bool.and_self, qal, qgC, qkR, qag, qaq, Int.reduceEq, decide_true, decide_false, qaa, cond_true, cond_false, qav, Option.map_some, Option.bind_some, qbH]
  ·have : (⟨y.a || false, y.p || false, y.h || false⟩ : Nm) = y := by simp only [Bool.or_false]
   simp only [hid, ldP (hc5 _), qb4, Bool.false_and, this, qal, qgC, qkR, qag, qaq, decide_false, qaa, cond_false, qav, Option.map_some, Option.bind_some, qbH]
 refine ⟨S (qqR id y t l), nmH lp0 id H0 (qqR id y t l), ?_, rfl, h2, ⟨rfl, h4⟩, ?_⟩
 ·rw [qg7 CP (by omega), qbL]
  refine qe4 (cf := cf203) (np := 4) (args' := [t.v, i64 l, .ptr lp0 0, .ptr (lp0 + 1) 0]) (v := bl false) (by kernel_rfl) (by kernel_rfl) rfl (by simp only [List.nil_append, List.cons_append, List.all_cons, qan]; rfl) (by simp only [List.nil_append, List.cons_append, List.map_cons, qao]; rfl) ((s203_eq _ _ _ _ _ _ _).trans ?_) rfl rfl
  rw [← hrun, ← hS]
 ·rw [hS]
  exact TF.refl _
theorem qox (id : Int) (t : Tm) (hs : t.size ≤ 900000) : PC CP 186 [t.v, i64 id] (qft id t).v := by
 refine PC.of2 (cf := cf186) (np := 2) (args' := [t.v, i64 id]) (by kernel_rfl) (by kernel_rfl) rfl (by simp only [List.all_cons, qan]; rfl) (by simp only [List.map_cons, qao]; rfl) (fun lo => rfl)
  ((qgH (Ad := fun _ => True) (fun _ => rfl) (fun _ => rfl) (fun _ => rfl) (fun _ => rfl) t hs trivial (fun _ _ _ _ => trivial) (qqc id t.size) (fun _ _ _ _ _ _ h hn => ⟨h.1, Nat.lt_of_lt_of_le h.2 hn⟩)).mono fun n h E s => ?_)
 let s8 := qaf (qaf s (.cells [i64 id])) (.cells [bl false, bl false, bl false])
 obtain ⟨s', H', e1, e2, ⟨e3, e4⟩, e5, e6⟩ := h (s.next, s.heap) ⟨false, false, false⟩ E s8 ⟨rfl, by show s.next + 1 < s.next + 1 + 1; omega⟩
 rw [qow id t.size _ t 0 (Nat.le_refl _)] at e1 e2 e3
 simp only [Bool.false_or] at e1 e2 e3
 have hnm : (⟨t.any (isA id) 0, t.any (isP id) 0, t.any (isH id) 0⟩ : Nm) = qft id t := rfl
 rw [hnm] at e3
 have hN : s8.next = s.next + 1 + 1 := rfl
 have hc7 : qaj (qae CP n E).E s' (qaf s (.cells [i64 id])).next = some (qft id t).c := by
  rw [qaQ, qhG e2 (by show s.next + 1 < s.next + 1 + 1; omega), e3]
  exact qaT rfl
 have hst : stH s' (.ptr (qaf s (.cells [i64 id])).next 0) (qft id t).c = some s' := by
  have b1 : Nat.beq (s8.next + 1) (qaf s (.cells [i64 id])).next = false := beq_false (by show s.next + 1 + 1 + 1 ≠ s.next + 1; omega)
  have b2 : Nat.beq s8.next (qaf s (.cells [i64 id])).next = false := beq_false (by show s.next + 1 + 1 ≠ s.next + 1; omega)
  have b3 : Nat.beq (s.next + 1) (qaf s (.cells [i64 id])).next = true := qaz rfl
  have ho : over (qft id t).c 0 (qft id t).c = some (qft id t).c := rfl
  have haw : (qft id t).c.all qaK = true := rfl
  have hs' : s'.heap = (s8.next + 1, .cells [bl false]) :: (s8.next, .cells [.func 203 [] [.ptr s.next 0, .ptr (s.next + 1) 0]]) :: (s.next + 1, .cells (qft id t).c) :: (s.next, .cells [i64 id]) :: s.heap := by rw [e2, e3]
  simp only [stH, qbu, hs', qam, qaF, b1, b2, b3, cond_false, cond_true, haw, ho, Option.bind_some, Option.map_some]
  rw [← hs']
 have e1' : cl (qae CP n E) 159 [t.v, .func 203 [] [.ptr s.next 0, .ptr (qaf s (.cells [i64 id])).next 0]] (qaf (qaf s (.cells [i64 id])) (.cells [bl false, bl false, bl false])) = some (bl false, s') := e1
 have haw : [i64 id].all qaK = true := rfl
 have haw3 : [bl false, bl false, bl false].all qaK = true := rfl
 have n1 : ldL (qft id t).c 0 (some 3) = some (qft id t).v := rfl
 have n2 : AVal.cells (some 3) (qft id t).v = some (qft id t).c := rfl
 refine ⟨(qft id t).v, s', (s186_eq _ _ _ _ _).trans ?_, rfl⟩
 unfold s186
 simp only [haw, qbh, e1', ldP hc7, n1, n2, hst, qal, qaW, Option.bind_some, qab, qaS, qbg, cnd]
end Go.AI.Tryz
namespace Go.AI
mutual
def w1F (id : Int) (val : Tm) : Tm → Tm
 | .mk k n m i ks => if i = id then (if k = 3 then val else if k = 4 then .az 1 (ks.headD .z) else if k = 18 then (w1L id val ks).headD .z else .mk k n m i ks) else .mk k n m i ks
def w1L (id : Int) (val : Tm) : List Tm → List Tm
 | [] => []
 | u :: r => w1F id val u :: w1L id val r
end
mutual
def woF (id : Int) (val : Tm) : Tm → Tm
 | .mk k n m i ks => if i = id then (if k = 3 then val else if k = 4 then .az 1 ((woL id val ks).headD .z) else if k = 18 then (woL id val ks).headD .z else .mk k n m i (woL id val ks)) else .mk k n m (if id < i then i - 1 else i) (woL id val ks)
def woL (id : Int) (val : Tm) : List Tm → List Tm
 | [] => []
 | u :: r => woF id val u :: woL id val r
end
inductive AllN (P : Tm → Prop) : Tm → Prop where
 | mk {t : Tm} (h : P t) (hk : ∀ u ∈ t.ks, AllN P u) : AllN P t
theorem AllN.hd {P : Tm → Prop} {t : Tm} (h : AllN P t) : P t := by cases h with | mk h _ => exact h
theorem AllN.kid {P : Tm → Prop} {t u : Tm} (h : AllN P t) (hu : u ∈ t.ks) : AllN P u := by cases h with | mk _ h => exact h u hu
theorem qoy (id : Int) (val t : Tm) : w1F id val t = if t.i = id then (if t.k = 3 then val else if t.k = 4 then .az 1 (t.ks.headD .z) else if t.k = 18 then (w1L id val t.ks).headD .z else t) else t := by
 cases t; rw [w1F]; rfl
theorem qtD (id : Int) (val t : Tm) : woF id val t = if t.i = id then (if t.k = 3 then val else if t.k = 4 then .az 1 ((woL id val t.ks).headD .z) else if t.k = 18 then (woL id val t.ks).headD .z else .mk t.k t.n t.m t.i (woL id val t.ks)) else .mk t.k t.n t.m (if id < t.i then t.i - 1 else t.i) (woL id val t.ks) := by
 cases t; rw [woF]; rfl
def NmK (id : Int) (t : Tm) : Prop := t.i = id → (t.k = 3 ∧ t.ks = []) ∨ (t.k = 4 ∧ t.n = 0 ∧ t.m = 0 ∧ ∃ u, t.ks = [u]) ∨ (t.k = 18 ∧ ∃ u, t.ks = [u])
def qcQ (id : Int) (t : Tm) : Tm := .mk t.k t.n t.m (if id < t.i then t.i - 1 else t.i) t.ks
theorem qoz {id : Int} {val : Tm} (hv : val.i = 0 ∧ val.ks = []) (h0 : 1 ≤ id) (f : Unit → Tm → Int → Unit × Tm) : ∀ (d : Nat) (t : Tm), t.size ≤ d → AllN (NmK id) t → (∀ u, u.size < t.size → AllN (NmK id) u → ∀ l, (f () u l).2 = woF id val u) →
  ∀ lab l, (qcQ id (w1F id val t)).with (qeU f lab l 0 () (qcQ id (w1F id val t)).ks).2 = woF id val t
 | 0, t, h, _, _, _, _ => by have := Tm.size_pos t; omega
 | d + 1, t, h, hA, hf, lab, l => by
  have hfk : ∀ (ks : List Tm) (j : Nat), (∀ u ∈ ks, u.size < t.size ∧ AllN (NmK id) u) → (qeU f lab l j () ks).2 = woL id val ks := by
   intro ks
   induction ks with
   | nil => intro j _; rfl
   | cons u r ih =>
    intro j hu
    simp only [qeU, woL]
    rw [hf u (hu u (List.mem_cons_self ..)).1 (hu u (List.mem_cons_self ..)).2, ih (j + 1) fun v hv => hu v (List.mem_cons_of_mem _ hv)]
  have hks : ∀ u ∈ t.ks, u.size < t.size ∧ AllN (NmK id) u := fun u hu => ⟨by have := Tm.sizeL_mem hu; rw [Tm.size_ks t]; omega, hA.kid hu⟩
  rw [qoy, qtD]
  by_cases hi : t.i = id
  ·rw [if_pos hi, if_pos hi]
   rcases hA.hd hi with ⟨hk, hu⟩ | ⟨hk, _, _, u, hu⟩ | ⟨hk, u, hu⟩
   ·rw [if_pos hk, if_pos hk]
    obtain ⟨k, n, m, i, ks⟩ := val
    simp only [Tm.i, Tm.ks] at hv
    obtain ⟨rfl, rfl⟩ := hv
    have hz : ¬ id < 0 := by omega
    simp only [qcQ, Tm.with, Tm.k, Tm.n, Tm.m, Tm.i, Tm.ks, qeU, hz, if_false]
   ·rw [if_neg (by omega), if_pos hk, if_neg (by omega), if_pos hk, hu]
    have hm : u ∈ t.ks := by rw [hu]; exact List.mem_cons_self ..
    have e := hfk [u] 0 (by rw [← hu]; exact hks)
    have hz : ¬ id < 0 := by omega
    simp only [qcQ, Tm.with, Tm.k, Tm.n, Tm.m, Tm.i, Tm.ks, hz, if_false, List.headD_cons]
    rw [e]
    simp only [woL, List.headD_cons]
   ·rw [if_neg (by omega), if_neg (by omega), if_pos hk, if_neg (by omega), if_neg (by omega), if_pos hk, hu]
    have hm : u ∈ t.ks := by rw [hu]; exact List.mem_cons_self ..
    have hus := (hks u hm).1
    simp only [w1L, woL, List.headD_cons]
    exact qoz hv h0 f d u (by omega) (hA.kid hm) (fun v hvs => hf v (by omega)) lab l
  ·rw [if_neg hi, if_neg hi]
   have e := hfk t.ks 0 hks
   simp only [qcQ, Tm.with, Tm.k, Tm.n, Tm.m, Tm.i, Tm.ks_mk]
   rw [e]
theorem qoA {id : Int} {val : Tm} (hv : val.i = 0 ∧ val.ks = []) (h0 : 1 ≤ id) : ∀ (d : Nat) (t : Tm) (l : Int), t.size ≤ d → AllN (NmK id) t → (qcz (fun (x : Unit) t l => (x, qcQ id (w1F id val t), true)) d () t l).2 = woF id val t
 | 0, t, l, h, _ => by have := Tm.size_pos t; omega
 | d + 1, t, l, h, hA => by
  simp only [qcz, if_true]
  exact qoz hv h0 _ (d + 1) t h hA (fun u hu hAu l => qoA hv h0 d u l (by omega) hAu) _ _
theorem qoB {id : Int} {val : Tm} (hv : val.size = 1) : ∀ (d : Nat) (t : Tm), t.size ≤ d → AllN (NmK id) t → (w1F id val t).size ≤ t.size
 | 0, t, h, _ => by have := Tm.size_pos t; omega
 | d + 1, t, h, hA => by
  rw [qoy]
  split
  ·rename_i hi
   rcases hA.hd hi with ⟨hk, _⟩ | ⟨hk, _, _, u, hu⟩ | ⟨hk, u, hu⟩
   ·rw [if_pos hk, hv]; exact Tm.size_pos t
   ·rw [if_neg (by omega), if_pos hk, hu, Tm.size_ks t, hu]
    simp only [List.headD_cons, Tm.size_ks, Tm.ks, Tm.sizeL]; omega
   ·rw [if_neg (by omega), if_neg (by omega), if_pos hk, hu]
    have hm : u ∈ t.ks := by rw [hu]; exact List.mem_cons_self ..
    have hlt := Tm.sizeL_mem hm
    have ht := Tm.size_ks t
    have := qoB hv d u (by omega) (hA.kid hm)
    simp only [w1L, List.headD_cons]
    omega
  ·exact Nat.le_refl _
theorem qoC {id : Int} {val : Tm} (hv : val.ks = []) (P : Tm → Prop) : ∀ (d : Nat) (t : Tm), t.size ≤ d → AllN (NmK id) t → AllN P t → ∀ u ∈ (w1F id val t).ks, AllN P u
 | 0, t, h, _, _ => by have := Tm.size_pos t; omega
 | d + 1, t, h, hA, hP => by
  rw [qoy]
  split
  ·rename_i hi
   rcases hA.hd hi with ⟨hk, _⟩ | ⟨hk, _, _, u, hu⟩ | ⟨hk, u, hu⟩
   ·rw [if_pos hk, hv]; intro u hu; cases hu
   ·rw [if_neg (by omega), if_pos hk, hu]
    intro v hv
    simp only [List.headD_cons, Tm.ks, List.mem_singleton] at hv
    subst hv
    exact hP.kid (by rw [hu]; exact List.mem_cons_self ..)
   ·rw [if_neg (by omega), if_neg (by omega), if_pos hk, hu]
    have hm : u ∈ t.ks := by rw [hu]; exact List.mem_cons_self ..
    have hlt := Tm.sizeL_mem hm
    have ht := Tm.size_ks t
    simp only [w1L, List.headD_cons]
    exact qoC hv P d u (by omega) (hA.kid hm) (hP.kid hm)
  ·exact fun u hu => hP.kid hu
end Go.AI
namespace Go.AI
theorem AllN.imp {P P' : Tm → Prop} (h : ∀ t, P t → P' t) {t : Tm} (a : AllN P t) : AllN P' t := by
 induction t using Tm.ind with
 | h k n m i ks ih => exact .mk (h _ a.hd) fun u hu => ih u hu (a.kid hu)
end Go.AI
namespace Go.AI.Tryz
abbrev Big (t : Tm) : Prop := t.i ≤ 9223372036854775807
section
variable {ι : Type} {bv : ι → AVal} {Cb : ι → qaJ → ASt → Prop} {Pb : Tm → Prop} {id : Int} {val : Tm}
def b1F (val : Tm) (t : Tm) : Tm := if t.k = 3 then val else if t.k = 4 then .az 1 (t.ks.headD .z) else t.ks.headD .z
theorem qvh (hv : val.i = 0 ∧ val.ks = []) (h0 : 1 ≤ id) (hPb : ∀ t, Pb t → NmK id t ∧ Big t) (hS : ∀ p, Stab (Cb p)) (d : Nat)
  (hb : Ev fun n => ∀ p E s t, Cb p E s → Pb t → t.i = id → clv (qae CP n E) (bv p) [t.v] s = some ((b1F val t).v, s)) :
  Ev fun n => ∀ l6 l9 p E s t l, qaj E s l6 = some [i64 id] → qaj E s l9 = some [bv p] → Cb p E s → t.size ≤ d → AllN Pb t → cl (qae CP n E) 204 [t.v, i64 l, .ptr l6 0, .ptr l9 0] s = some (.tuple [(qcQ id (w1F id val t)).v, bl true], s) := by
 refine Ev.succ ((hb.and (Ev.ge (d + 3))).mono fun n ⟨hb, hn⟩ l6 l9 p E s t l h6 h9 hc hs hA => ?_)
 rw [qbL]
 have h6' : qaj (qae CP n (s.heap ++ E)).E { s with heap := [], toks := [] } l6 = some [i64 id] := by rw [qaQ, qdN]; exact h6
 have h9' : qaj (qae CP n (s.heap ++ E)).E { s with heap := [], toks := [] } l9 = some [bv p] := by rw [qaQ, qdN]; exact h9
 have hb' := fun t => hb p (s.heap ++ E) { s with heap := [], toks := [] } t (hS p E s hc)
 suffices hrun : s204 (qae CP n (s.heap ++ E)) n t.v (i64 l) (.ptr l6 0) (.ptr l9 0) { s with heap := [], toks := [] } = some (.tuple [(qcQ id (w1F id val t)).v, bl true], { s with heap := [], toks := [] }) from
  qgq (cf := cf204) (np := 4) (args' := [t.v, i64 l, .ptr l6 0, .ptr l9 0]) (by kernel_rfl) (by kernel_rfl) rfl (by simp only [List.all_cons, qan]; rfl) (by simp only [List.map_cons, qao]; rfl) ((s204_eq _ _ _ _ _ _ _).trans hrun) (qcX _ _) (qdd _ _ _)
 generalize ({ s with heap := [], toks := [] } : ASt) = s0 at h6' h9' hb' ⊢
 generalize s.heap ++ E = E0 at h6' h9' hb' ⊢
 unfold s204
 simp only [qal, Option.bind_some]
 unfold s204_1
 generalize hF : (fun (h9 : List AVal → List AVal → ASt → Res) (c6 c7 : List AVal) (s8 : ASt) => _) = F
 have hex : ∀ (t : Tm) (k : Nat), t.i ≠ id → Big t → lp (fun _ _ _ => none) F (k + 1) t.c [u8 0, i64 0, i64 0, i64 0, .sl 0 [] .full] s0 = some (.tuple [(qcQ id t).v, bl true], s0) := by
  intro t k hne hbig
  rw [qa9]
  generalize lp _ F k = L
  subst hF
  unfold s204_0 qcQ
  by_cases hgt : id < t.i
  ·have hw : qa8 .i64 (t.i - 1) = t.i - 1 := qbT (by omega) (by omega)
   have ho : ∀ z : Int, over t.c 3 [i64 z] = some (Tm.mk t.k t.n t.m z t.ks).c := fun _ => rfl
   simp only [hne, hgt, ldP h6', qb4, hw, ho, qbh, if_true, qal, qaW, qkR, qaC, qag, qaq, qbe, qbP, decide_true, decide_false, qaa, cond_true, cond_false, qav, Option.map_some, Option.bind_some]
  ·simp only [hne, hgt, ldP h6', qb4, if_false, qtA, qal, qaW, qkR, qaC, qag, qaq, qbe, qbP, decide_false, qaa, cond_false, qav, Option.map_some, Option.bind_some]
 have key : ∀ (d : Nat) (t : Tm) (k : Nat), t.size ≤ d → d + 1 < k → AllN Pb t → lp (fun _ _ _ => none) F k t.c [u8 0, i64 0, i64 0, i64 0, .sl 0 [] .full] s0 = some (.tuple [(qcQ id (w1F id val t)).v, bl true], s0) := by
  intro d
  induction d with
  | zero => intro t k h; have := Tm.size_pos t; omega
  | succ d ih =>
   intro t k hs hk hA
   obtain ⟨k, rfl⟩ : ∃ m, k = m + 2 := ⟨k - 2, by omega⟩
   by_cases hi : t.i = id
   ·have hcl := hb' t hA.hd hi
    have hstep : lp (fun _ _ _ => none) F (k + 1) (b1F val t).c [u8 0, i64 0, i64 0, i64 0, .sl 0 [] .full] s0 = some (.tuple [(qcQ id (w1F id val t)).v, bl true], s0) := by
     rw [qoy, if_pos hi]
     unfold b1F
     rcases (hPb t hA.hd).1 hi with ⟨hk3, hu⟩ | ⟨hk4, _, _, u, hu⟩ | ⟨hk18, u, hu⟩
     ·rw [if_pos hk3, if_pos hk3]
      exact hex val k (by omega) (by show val.i ≤ _; omega)
     ·rw [if_neg (by omega), if_pos hk4, if_neg (by omega), if_pos hk4]
      exact hex (.az 1 (t.ks.headD .z)) k (by show (0 : Int) ≠ id; omega) (by show (0 : Int) ≤ _; omega)
     ·rw [if_neg (by omega), if_neg (by omega), if_neg (by omega), if_neg (by omega), if_pos hk18, hu]
      have hm : u ∈ t.ks := by rw [hu]; exact List.mem_cons_self ..
      have hlt := Tm.sizeL_mem hm
      have ht := Tm.size_ks t
      exact ih u (k + 1) (by omega) (by omega) (hA.kid hm)
    rw [qa9]
    generalize lp _ F (k + 1) = L at hstep ⊢
    subst hF
    simp only [hi, ldP h6', ldP h9', qb4, hcl, qal, qaW, qkR, qok, qag, qaq, qbe, qbP, decide_true, qaa, cond_true, qav, Option.map_some, Option.bind_some, qab]
    have hx : ldL [bv p] 0 none = some (bv p) := rfl
    exact hstep
   ·rw [qoy, if_neg hi]
    exact hex t (k + 1) hi (hPb t hA.hd).2
 exact key d t n hs (by omega) hA
theorem qgJ (hv : val.i = 0 ∧ val.ks = [] ∧ val.size = 1) (h0 : 1 ≤ id) (hPb : ∀ t, Pb t → NmK id t ∧ Big t) (hS : ∀ p, Stab (Cb p)) (hN : ∀ p E s o, Cb p E s → Cb p E (qaf s o)) (hH : ∀ p E s s', Cb p E s → s'.heap = s.heap → s'.next = s.next → Cb p E s')
  (ha : ∀ p, qaK (bv p) = true) (hw : ∀ p, qbj (bv p) = true) (hce : ∀ p, AVal.cells none (bv p) = some [bv p]) (he : ∀ p, qaA (bv p) = bv p)
  (t : Tm) (hs : t.size ≤ 900000) (hA : AllN Pb t)
  (hb : Ev fun n => ∀ p E s t, Cb p E s → Pb t → t.i = id → clv (qae CP n E) (bv p) [t.v] s = some ((b1F val t).v, s)) :
  Ev fun n => ∀ p E s, Cb p E s → cl (qae CP n E) 188 [t.v, i64 id, bv p] s = some ((woF id val t).v, s) := by
 have hNmA : ∀ t, AllN Pb t → AllN (NmK id) t := fun t h => h.imp fun t h => (hPb t h).1
 have hmap := qds (κ := Nat × Nat × ι) (R := fun q (_ : Unit) E s => qaj E s q.1 = some [i64 id] ∧ qaj E s q.2.1 = some [bv q.2.2] ∧ Cb q.2.2 E s) (fv := fun q => .func 204 [] [.ptr q.1 0, .ptr q.2.1 0]) (by_ := fun x t l => (x, qcQ id (w1F id val t), true)) (Ad := AllN Pb)
  (fun q x E s s' ⟨r1, r2, r3⟩ e1 e2 => ⟨by rw [qdP e1]; exact r1, by rw [qdP e1]; exact r2, hH _ E s s' r3 e1 e2⟩) (fun _ => rfl) (fun _ => rfl)
  (fun x t l hA _ => ⟨by
    have := qoB (id := id) (val := val) hv.2.2 t.size t (Nat.le_refl _) (hNmA t hA)
    simp only [qcQ, Tm.size_ks, Tm.ks_mk] at this ⊢
    exact this, fun u hu => qoC hv.2.1 Pb t.size t (Nat.le_refl _) (hNmA t hA) hA u (by simpa only [qcQ, Tm.ks_mk] using hu)⟩) t.size
  (((qvh ⟨hv.1, hv.2.1⟩ h0 hPb hS t.size hb).and (Ev.ge 1)).mono fun n ⟨h, hn⟩ q x E s t l h1 h2 h3 h4 ⟨r1, r2, r3⟩ => ⟨s, by
    rw [qg7 CP hn]
    exact h q.1 q.2.1 q.2.2 E s t l r1 r2 r3 h1 h2, ⟨r1, r2, r3⟩, TF.refl s⟩)
 refine Ev.succ (hmap.mono fun n h p E s hc => ?_)
 rw [qbL]
 let s0 : ASt := { s with heap := [], toks := [] }
 have hc0 := hS p E s hc
 have hc1 := hN p _ _ (.cells [bv p]) (hN p _ _ (.cells [i64 id]) hc0)
 obtain ⟨s', e1, _, _⟩ := h (s0.next, (qaf s0 (.cells [i64 id])).next, p) () (s.heap ++ E) (qaf (qaf s0 (.cells [i64 id])) (.cells [bv p])) t 0 (Nat.le_refl _) hA (by omega) (by omega) ⟨qc0 _ _ _ _, qaI _ _ _, hc1⟩
 have e := qoA (id := id) (val := val) ⟨hv.1, hv.2.1⟩ h0 t.size t 0 (Nat.le_refl _) (hNmA t hA)
 rw [e] at e1
 refine qgq (cf := cf188) (np := 3) (args' := [t.v, i64 id, bv p]) (v := (woF id val t).v) (s' := s') (by kernel_rfl) (by kernel_rfl) rfl (by simp only [List.all_cons, qan, hw]; rfl) (by simp only [List.map_cons, qao, he]; rfl) ((s188_eq _ _ _ _ _ _).trans ?_) (qao _) (qaV _ _)
 have haw : [bv p].all qaK = true := by simp only [List.all_cons, ha, List.all_nil, Bool.and_self]
 have haw2 : [i64 id].all qaK = true := rfl
 have e2 : cl (qae CP n (s.heap ++ E)) 108 [t.v, i64 0, .func 204 [] [.ptr s.next 0, .ptr (qaf { s with heap := [], toks := [] } (.cells [i64 id])).next 0]] (qaf (qaf { s with heap := [], toks := [] } (.cells [i64 id])) (.cells [bv p])) = some ((woF id val t).v, s') := e1
 unfold s188
 simp only [hce, haw, haw2, qbh, e2, qal, qaW, qaC, Option.bind_some, qab, qaS, qbg, cnd]
def clR (x : Sc) (ok : Nm → Bool) (val : Tm) (t : Tm) : Option Tm := if t.k = 10 then (match t.ks with | [u] => if ok (qft (Int.ofNat x.ids.length + 1) u) then some (woF (Int.ofNat x.ids.length + 1) val u) else none | _ => none) else none
theorem qr4 (x : Vw) (hl : x.sz.length ≤ 1000000) : PC CP 187 [x.v] (i64 (Int.ofNat x.sz.length + 1)) := by
 refine PC.of2 (cf := cf187) (np := 1) (args' := [x.v]) (by kernel_rfl) (by kernel_rfl) rfl (by first | rfl | (simp only [List.all_cons, qan, qcx]; rfl)) (by first | rfl | (simp only [List.map_cons, qao, qcy]; rfl)) (fun lo => by first | rfl | exact qaV lo _ | exact qbs lo _ | exact qdd lo _ _) (Ev.mono (ev0) fun N _ E s => ⟨i64 (Int.ofNat x.sz.length + 1), s, (s187_eq _ _ _ _).trans ?_, (by first | rfl | exact qao _ | exact qa5 _ | exact qcX _ _)⟩)
 have hw : qa8 .i64 (Int.ofNat x.sz.length + 1) = Int.ofNat x.sz.length + 1 := qbT (by simp only [Int.ofNat_eq_natCast]; omega) (by simp only [Int.ofNat_eq_natCast]; omega)
 unfold s187
 simp only [hw, qay, qsy, qag, qaH, Option.map_some, Option.bind_some, qcV]
theorem qfb (x : Sc) (t : Tm) (g : Gd x t) (hs : t.size ≤ 900000) (f : Nat) (ok : Nm → Bool) (hok : ∀ y : Nm, PC CP f [y.v] (bl (ok y)))
  (hw : ∀ p, qbj (bv p) = true) (he : ∀ p, qaA (bv p) = bv p) (hS : ∀ p, Stab (Cb p))
  (hwo : ∀ u, t.k = 10 → t.ks = [u] → ok (qft (Int.ofNat x.ids.length + 1) u) = true → Ev fun n => ∀ p E s, Cb p E s → cl (qae CP n E) 188 [u.v, i64 (Int.ofNat x.ids.length + 1), bv p] s = some ((woF (Int.ofNat x.ids.length + 1) val u).v, s)) :
  Ev fun n => ∀ p E s, Cb p E s → cl (qae CP n E) 148 [(vw x t).v, .p (.func f [] []), bv p] s = some (qe8 (clR x ok val t), s) := by
 suffices Ev fun n => ∀ p E s, Cb p E s → ∃ s', s148 (qae CP n E) n (vw x t).v (.p (.func f [] [])) (bv p) s = some (qe8 (clR x ok val t), s') by
  refine Ev.succ (this.mono fun n h p E s hc => ?_)
  obtain ⟨s', e⟩ := h p _ _ (hS p E s hc)
  rw [qbL]
  exact qgq (cf := cf148) (np := 3) (args' := [(vw x t).v, .p (.func f [] []), bv p]) (by kernel_rfl) (by kernel_rfl) rfl (by simp only [List.all_cons, qcx, hw]; rfl) (by simp only [List.map_cons, qcy, he]; rfl) ((s148_eq _ _ _ _ _ _).trans e) (qa5 _) (qbs _ _)
 have hsl : (vw x t).sz.length = x.ids.length := by simp only [vw, List.length_map]
 by_cases hk : t.k = 10
 ·cases g.sh with
  | new n0 m0 u =>
   have su : u.size < (Tm.new n0 m0 u).size := qa4 (by simp [Tm.ks])
   have e : clR x ok val (.new n0 m0 u) = if ok (qft (Int.ofNat x.ids.length + 1) u) then some (woF (Int.ofNat x.ids.length + 1) val u) else none := rfl
   rw [e]
   clear e
   generalize hid : (Int.ofNat x.ids.length + 1 : Int) = id at hwo ⊢
   have hcell : PC CP 187 [(vw x (.new n0 m0 u)).v] (i64 id) := by
    have := qr4 (vw x (.new n0 m0 u)) (by rw [hsl]; exact g.l)
    rw [hsl, hid] at this
    exact this
   have hwo' := hwo u rfl rfl
   have hokn := hok (qft id u)
   generalize ok (qft id u) = q at hwo' hokn ⊢
   cases q with
   | false =>
    refine (((qcW (vw x (.new n0 m0 u)) 10).and (hcell.and ((qox id u (by omega)).and (hokn.and (nothing_c.and (Ev.ge 1)))))).mono fun N ⟨h1, h2, h3, h4, h5, hn⟩ p E s hc => ⟨s, ?_⟩)
    obtain ⟨i0, l0⟩ := qcT (n := N) (E := E) (l := [u]) (u := u) rfl
    unfold s148 s148_0
    simp only [h1, i0, l0, h2, h3, qeI CP hn, h4, h5, Bool.false_eq_true, if_false, qal, qaW, qaC, qay, qbR, qbV, vwt, decide_true, Bool.not_true, Bool.not_false, qaa, cond_true, cond_false, qav, Option.bind_some, qab, qah, qar, qas, qau, Tm.k_mk, Tm.ks_mk, qaw, Option.getD_none, Option.isSome_none]
   | true =>
    refine (((qcW (vw x (.new n0 m0 u)) 10).and (hcell.and ((qox id u (by omega)).and (hokn.and ((hwo' rfl).and (Ev.ge 1)))))).mono fun N ⟨h1, h2, h3, h4, h5, hn⟩ p E s hc => ⟨s, ?_⟩)
    obtain ⟨i0, l0⟩ := qcT (n := N) (E := E) (l := [u]) (u := u) rfl
    have h5' := h5 p E s hc
    unfold s148 s148_0
    simp only [h1, i0, l0, h2, h3, qeI CP hn, h4, h5', if_true, qal, qaW, qaC, qay, qbR, qbV, vwt, decide_true, Bool.not_true, qaa, cond_true, cond_false, qav, Option.bind_some, qab, qau, Tm.k_mk, Tm.ks_mk, qaw, Option.getD_some, Option.isSome_some]
  | _ => simp only [Tm.k_mk] at hk; omega
 ·have e : clR x ok val t = none := by unfold clR; rw [if_neg hk]
  rw [e]
  refine ((qcW (vw x t) 10).and nothing_c).mono fun N ⟨h1, h5⟩ p E s hc => ⟨s, ?_⟩
  unfold s148 s148_0
  simp only [h1, h5, hk, qal, qaW, qaC, qay, qbR, qbV, vwt, decide_false, Bool.not_false, qaa, cond_true, qav, Option.bind_some, qab, qah, qar, qas, qau, qaw, Option.getD_none, Option.isSome_none]
end
end Go.AI.Tryz
namespace Go.AI
theorem Sc.get_with {x : Sc} {y : Se} {i : Int} {e : Se} (h : x.get i = some e) : (x.with y).get i = some e := by
 obtain ⟨j, hi, hj⟩ := Sc.get_inv h
 have hjl := (List.getElem?_eq_some_iff.1 hj).1
 unfold Sc.get Sc.with
 rw [if_neg (by simp only [Int.ofNat_eq_natCast] at hi; omega)]
 have : (i - 1).toNat = j := by simp only [Int.ofNat_eq_natCast] at hi; omega
 rw [this]
 simp only [List.getElem?_append_left hjl]
 exact hj
theorem Sc.get_last {x : Sc} {y : Se} : (x.with y).get (Int.ofNat x.ids.length + 1) = some y := by
 unfold Sc.get Sc.with
 rw [if_neg (by simp only [Int.ofNat_eq_natCast]; omega)]
 have : (Int.ofNat x.ids.length + 1 - 1).toNat = x.ids.length := by simp only [Int.ofNat_eq_natCast]; omega
 rw [this]
 simp only [List.getElem?_concat_length]
theorem qdu {is : Tm → Int → Bool} (hl : ∀ t l l', is t l = is t l') {t : Tm} : ∀ {l : Int}, t.any is l = false → AllN (fun t => is t 0 = false) t := by
 induction t using Tm.ind with
 | h k n m i ks ih =>
  intro l h
  rw [Tm.any_eq, Bool.or_eq_false_iff] at h
  refine .mk (by rw [hl _ 0 l]; exact h.1) ?_
  have hk : ∀ (r : List Tm) (j : Nat), (∀ u ∈ r, u ∈ ks) → Tm.anyK is (decide ((Tm.mk k n m i ks).k = 11)) l j r = false → ∀ u ∈ r, AllN (fun t => is t 0 = false) u := by
   intro r
   induction r with
   | nil => intro j _ _ u hu; cases hu
   | cons v r ih2 =>
    intro j hm ha u hu
    simp only [Tm.anyK, Bool.or_eq_false_iff] at ha
    rcases List.mem_cons.1 hu with rfl | hu
    ·exact ih u (hm u (List.mem_cons_self ..)) ha.1
    ·exact ih2 (j + 1) (fun w hw => hm w (List.mem_cons_of_mem _ hw)) ha.2 u hu
  exact hk ks 0 (fun _ h => h) h.2
theorem AllN.and {P Q : Tm → Prop} {t : Tm} (h : AllN P t) (k : AllN Q t) : AllN (fun t => P t ∧ Q t) t := by
 induction t using Tm.ind with
 | h _ _ _ _ ks ih => exact .mk ⟨h.hd, k.hd⟩ fun u hu => ih u hu (h.kid hu) (k.kid hu)
end Go.AI
namespace Go.AI.Tryz
def qmR (id : Int) (t : Tm) : Prop := (t.i = id → t.k = 3 ∨ t.k = 4 ∨ t.k = 18 ∨ t.k = 16) ∧ Sh t ∧ Big t
theorem Tm.Ok.big {t : Tm} (h : t.Ok) : Big t := by cases h with | mk _ _ _ hi _ _ => exact hi.2
theorem qfc {f : Tm → Bs → Bool} : ∀ {ks : List Tm} {ps : List Bs}, qbB f ks ps = true → ∀ u ∈ ks, ∃ b ∈ ps, f u b = true
 | [], _, _, u, hu => by cases hu
 | _ :: _, [], h, _, _ => by simp [qbB] at h
 | k :: ks, b :: ps, h, u, hu => by
  simp only [qbB, Bool.and_eq_true] at h
  rcases List.mem_cons.1 hu with rfl | hu
  ·exact ⟨b, List.mem_cons_self .., h.1⟩
  ·obtain ⟨c, hc, hf⟩ := qfc h.2 u hu
   exact ⟨c, List.mem_cons_of_mem _ hc, hf⟩
theorem qeO {x : Sc} {t : Tm} {b : Bs} (h : qdA szF x t b = true) : (szF x t = (b.n, true)) ∨ (∃ i e, t = .cel i ∧ x.get i = some e ∧ e.ty.res.cell = true ∧ e.ty.res.n = b.n ∧ b.cell = true) ∨ (∃ u w, t = .obj u w ∧ szF x u = (b.n, true) ∧ szF (x.with ⟨⟨[], ⟨false, b.n⟩⟩, true⟩) w = (1, true) ∧ b.cell = true) := by
 unfold qdA at h
 split at h
 ·rename_i hc
  rw [Bool.and_eq_true] at h
  obtain ⟨hok, h⟩ := h
  have hsh := qon hok
  split at h
  ·rename_i h16
   cases hsh with
   | cel i =>
    simp only [Tm.i_mk] at h
    cases he : x.get i with
    | none => rw [he] at h; cases h
    | some e =>
     rw [he] at h
     simp only [Bool.and_eq_true, decide_eq_true_eq] at h
     exact .inr (.inl ⟨i, e, rfl, he, h.1, h.2, hc⟩)
   | _ => simp only [Tm.k_mk] at h16; omega
  ·split at h
   ·rename_i h17
    cases hsh with
    | obj u w =>
     simp only [Tm.ks_mk, Bool.and_eq_true, decide_eq_true_eq] at h
     exact .inr (.inr ⟨u, w, rfl, Prod.ext h.1.2 h.1.1, Prod.ext h.2.2 h.2.1, hc⟩)
    | _ => simp only [Tm.k_mk] at h17; omega
   ·cases h
 ·simp only [Bool.and_eq_true, decide_eq_true_eq] at h
  exact .inl (Prod.ext h.2 h.1)
def Cl (x : Sc) (id : Int) : Prop := ∃ e, x.get id = some e ∧ e.ty.res.cell = true ∧ e.arg = false
theorem Cl.with {x : Sc} {id : Int} (h : Cl x id) (y : Se) : Cl (x.with y) id := by
 obtain ⟨e, h1, h2⟩ := h
 exact ⟨e, Sc.get_with h1, h2⟩
theorem Cl.size {x : Sc} {id n : Int} (h : Cl x id) : Cl { x with size := n } id := h
theorem ql5 {id : Int} (h0 : 1 ≤ id) : ∀ (d : Nat) (t : Tm) (x : Sc), t.size ≤ d → t.Ok → Cl x id → ((szF x t).2 = true ∨ ∃ b, qdA szF x t b = true) → AllN (qmR id) t
 | 0, t, _, h, _, _, _ => by have := Tm.size_pos t; omega
 | d + 1, t, x, hd, hok, hc, h => by
  have hb := Tm.Ok.big hok
  have IH : ∀ u ∈ t.ks, ∀ y, Cl y id → ((szF y u).2 = true ∨ ∃ b, qdA szF y u b = true) → AllN (qmR id) u := fun u hu y hy hs => ql5 h0 d u y (by have := qa4 hu; omega) (hok.kids u hu) hy hs
  have harg : ∀ b, qdA szF x t b = true → (szF x t).2 = true ∨ (∃ i, t = .cel i) ∨ (∃ u w, t = .obj u w ∧ szF x u = (b.n, true) ∧ szF (x.with ⟨⟨[], ⟨false, b.n⟩⟩, true⟩) w = (1, true)) := by
   intro b hb
   rcases qeO hb with h | ⟨i, e, h, _⟩ | ⟨u, w, h1, h2, h3, _⟩
   ·exact .inl (by rw [h])
   ·exact .inr (.inl ⟨i, h⟩)
   ·exact .inr (.inr ⟨u, w, h1, h2, h3⟩)
  have hcase : (szF x t).2 = true ∨ (∃ i, t = .cel i) ∨ (∃ u w, ∃ b : Bs, t = .obj u w ∧ szF x u = (b.n, true) ∧ szF (x.with ⟨⟨[], ⟨false, b.n⟩⟩, true⟩) w = (1, true)) := by
   rcases h with h | ⟨b, h⟩
   ·exact .inl h
   ·rcases harg b h with h | h | ⟨u, w, h⟩
    ·exact .inl h
    ·exact .inr (.inl h)
    ·exact .inr (.inr ⟨u, w, b, h⟩)
  obtain ⟨e, he, hcl, hna⟩ := hc
  have hc : Cl x id := ⟨e, he, hcl, hna⟩
  rcases hcase with h | ⟨i, rfl⟩ | ⟨u, w, b, rfl, h1, h2⟩
  ·have hsh := qdq h
   cases hsh with
   | num n m => exact .mk ⟨fun hi => by simp only [Tm.i_mk] at hi; omega, .num .., hb⟩ fun u hu => by cases hu
   | use i ks =>
    rw [qgD] at h
    refine .mk ⟨fun hi => ?_, .use .., hb⟩ fun u hu => ?_
    ·simp only [Tm.i_mk] at hi
     subst hi
     rw [he] at h
     simp [hcl] at h
    ·simp only [Bool.and_eq_true] at h
     obtain ⟨b, _, hf⟩ := qfc h.2.2.2 u hu
     exact IH u hu x hc (.inr ⟨b, hf⟩)
   | get i => exact .mk ⟨fun hi => .inl rfl, .get .., hb⟩ fun u hu => by cases hu
   | put i u =>
    rw [qeJ, Bool.and_eq_true, is2_iff] at h
    exact .mk ⟨fun hi => .inr (.inl rfl), .put .., hb⟩ fun v hv => by
     simp only [Tm.ks_mk, List.mem_singleton] at hv
     subst hv
     exact IH v (by simp [Tm.ks]) x hc (.inl (by rw [h.2]))
   | op n m u w =>
    rw [qeK] at h
    have hin : is2 (szF x u) m = true ∧ is2 (szF x w) m = true := by
     split at h
     ·simp only [Bool.and_eq_true] at h ⊢; exact h.2
     ·split at h
      ·simp only [Bool.and_eq_true] at h ⊢; exact h.2
      ·cases h
    rw [is2_iff, is2_iff] at hin
    exact .mk ⟨fun hi => by simp only [Tm.i_mk] at hi; omega, .op .., hb⟩ fun v hv => by
     simp only [Tm.ks_mk, List.mem_cons, List.not_mem_nil, or_false] at hv
     rcases hv with rfl | rfl
     ·exact IH v (by simp [Tm.ks]) x hc (.inl (by rw [hin.1]))
     ·exact IH v (by simp [Tm.ks]) x hc (.inl (by rw [hin.2]))
   | az n u =>
    rw [qeL, Bool.and_eq_true] at h
    exact .mk ⟨fun hi => by simp only [Tm.i_mk] at hi; omega, .az .., hb⟩ fun v hv => by
     simp only [Tm.ks_mk, List.mem_singleton] at hv
     subst hv
     exact IH v (by simp [Tm.ks]) x hc (.inl h.1)
   | seq u w =>
    rw [qbQ, Bool.and_eq_true, is2_iff] at h
    exact .mk ⟨fun hi => by simp only [Tm.i_mk] at hi; omega, .seq .., hb⟩ fun v hv => by
     simp only [Tm.ks_mk, List.mem_cons, List.not_mem_nil, or_false] at hv
     rcases hv with rfl | rfl
     ·exact IH v (by simp [Tm.ks]) x hc (.inl (by rw [h.2]))
     ·exact IH v (by simp [Tm.ks]) x hc (.inl h.1)
   | ite c u w =>
    rw [qcm, Bool.and_eq_true, Bool.and_eq_true, is2_iff] at h
    exact .mk ⟨fun hi => by simp only [Tm.i_mk] at hi; omega, .ite .., hb⟩ fun v hv => by
     simp only [Tm.ks_mk, List.mem_cons, List.not_mem_nil, or_false] at hv
     rcases hv with rfl | rfl | rfl
     ·exact IH v (by simp [Tm.ks]) x hc (.inl h.2)
     ·exact IH v (by simp [Tm.ks]) x hc (.inl h.1.1)
     ·exact IH v (by simp [Tm.ks]) x hc (.inl (by rw [h.1.2]))
   | whl u w =>
    rw [qfp, Bool.and_eq_true, is2_iff] at h
    exact .mk ⟨fun hi => by simp only [Tm.i_mk] at hi; omega, .whl .., hb⟩ fun v hv => by
     simp only [Tm.ks_mk, List.mem_cons, List.not_mem_nil, or_false] at hv
     rcases hv with rfl | rfl
     ·exact IH v (by simp [Tm.ks]) x hc (.inl h.1)
     ·exact IH v (by simp [Tm.ks]) x hc (.inl (by rw [h.2]))
   | new n m u =>
    rw [qeM, Bool.and_eq_true] at h
    exact .mk ⟨fun hi => by simp only [Tm.i_mk] at hi; omega, .new .., hb⟩ fun v hv => by
     simp only [Tm.ks_mk, List.mem_singleton] at hv
     subst hv
     exact IH v (by simp [Tm.ks]) _ (hc.with _) (.inl h.1)
   | lbl u w =>
    rw [qd6, Bool.and_eq_true, is2_iff] at h
    exact .mk ⟨fun hi => by simp only [Tm.i_mk] at hi; omega, .lbl .., hb⟩ fun v hv => by
     simp only [Tm.ks_mk, List.mem_cons, List.not_mem_nil, or_false] at hv
     rcases hv with rfl | rfl
     ·exact IH v (by simp [Tm.ks]) { x with size := x.size + 1 } hc (.inl h.1)
     ·exact IH v (by simp [Tm.ks]) x hc (.inl (by rw [h.2]))
   | jmp n => exact .mk ⟨fun hi => by simp only [Tm.i_mk] at hi; omega, .jmp .., hb⟩ fun u hu => by cases hu
   | cho u w =>
    rw [qd7, Bool.and_eq_true, is2_iff] at h
    exact .mk ⟨fun hi => by simp only [Tm.i_mk] at hi; omega, .cho .., hb⟩ fun v hv => by
     simp only [Tm.ks_mk, List.mem_cons, List.not_mem_nil, or_false] at hv
     rcases hv with rfl | rfl
     ·exact IH v (by simp [Tm.ks]) x hc (.inl h.1)
     ·exact IH v (by simp [Tm.ks]) x hc (.inl (by rw [h.2]))
   | hang => exact .mk ⟨fun hi => by simp only [Tm.i_mk] at hi; omega, .hang, hb⟩ fun u hu => by cases hu
   | val i =>
    rw [qhF] at h
    refine .mk ⟨fun hi => ?_, .val .., hb⟩ fun u hu => by cases hu
    simp only [Tm.i_mk] at hi
    subst hi
    rw [he] at h
    simp [hna] at h
   | cel i => rw [qfq] at h; cases h
   | obj u w => rw [qd8] at h; cases h
   | ntc n i u =>
    rw [qd9, Bool.and_eq_true] at h
    exact .mk ⟨fun hi => .inr (.inr (.inl rfl)), .ntc .., hb⟩ fun v hv => by
     simp only [Tm.ks_mk, List.mem_singleton] at hv
     subst hv
     exact IH v (by simp [Tm.ks]) x hc (.inl h.1)
  ·exact .mk ⟨fun hi => .inr (.inr (.inr rfl)), .cel .., hb⟩ fun u hu => by cases hu
  ·exact .mk ⟨fun hi => by simp only [Tm.i_mk] at hi; omega, .obj .., hb⟩ fun v hv => by
    simp only [Tm.ks_mk, List.mem_cons, List.not_mem_nil, or_false] at hv
    rcases hv with rfl | rfl
    ·exact IH v (by simp [Tm.ks]) x hc (.inl (by rw [h1]))
    ·exact IH v (by simp [Tm.ks]) _ (hc.with _) (.inl (by rw [h2]))
end Go.AI.Tryz
namespace Go.AI.Tryz
def okU (y : Nm) : Bool := !y.a && (!y.p && !y.h)
def qr5 (y : Nm) : Bool := y.a && (!y.p && !y.h)
def qr6 (y : Nm) : Bool := !y.a && (y.p && !y.h)
theorem qvi (y : Nm) : PC CP 149 [y.v] (bl (okU y)) := by
 refine PC.of2 (cf := cf149) (np := 1) (args' := [y.v]) (by kernel_rfl) (by kernel_rfl) rfl (by first | rfl | (simp only [List.all_cons, qan, qcx]; rfl)) (by first | rfl | (simp only [List.map_cons, qao, qcy]; rfl)) (fun lo => by first | rfl | exact qaV lo _ | exact qbs lo _ | exact qdd lo _ _) (Ev.mono (ev0) fun N _ E s => ⟨bl (okU y), s, (s149_eq _ _ _ _).trans ?_, (by first | rfl | exact qao _ | exact qa5 _ | exact qcX _ _)⟩)
 obtain ⟨a, p, h⟩ := y
 cases a <;> cases p <;> cases h <;> rfl
theorem qtE (y : Nm) : PC CP 150 [y.v] (bl (qr5 y)) := by
 refine PC.of2 (cf := cf150) (np := 1) (args' := [y.v]) (by kernel_rfl) (by kernel_rfl) rfl (by first | rfl | (simp only [List.all_cons, qan, qcx]; rfl)) (by first | rfl | (simp only [List.map_cons, qao, qcy]; rfl)) (fun lo => by first | rfl | exact qaV lo _ | exact qbs lo _ | exact qdd lo _ _) (Ev.mono (ev0) fun N _ E s => ⟨bl (qr5 y), s, (s150_eq _ _ _ _).trans ?_, (by first | rfl | exact qao _ | exact qa5 _ | exact qcX _ _)⟩)
 obtain ⟨a, p, h⟩ := y
 cases a <;> cases p <;> cases h <;> rfl
theorem qtF (y : Nm) : PC CP 153 [y.v] (bl (qr6 y)) := by
 refine PC.of2 (cf := cf153) (np := 1) (args' := [y.v]) (by kernel_rfl) (by kernel_rfl) rfl (by first | rfl | (simp only [List.all_cons, qan, qcx]; rfl)) (by first | rfl | (simp only [List.map_cons, qao, qcy]; rfl)) (fun lo => by first | rfl | exact qaV lo _ | exact qbs lo _ | exact qdd lo _ _) (Ev.mono (ev0) fun N _ E s => ⟨bl (qr6 y), s, (s153_eq _ _ _ _).trans ?_, (by first | rfl | exact qao _ | exact qa5 _ | exact qcX _ _)⟩)
 obtain ⟨a, p, h⟩ := y
 cases a <;> cases p <;> cases h <;> rfl
theorem of_u : UC 136 (fun p : Int × Int × Int × List Tm => [u8 p.1, i64 p.2.1, i64 p.2.2.1, kv p.2.2.2]) (fun _ _ _ => True) (fun p => (Tm.mk p.1 p.2.1 p.2.2.1 0 p.2.2.2).v) := by
 refine UC.of (cf := cf136) (np := 4) (by kernel_rfl) (by kernel_rfl) (fun _ => rfl) (fun _ => rfl) (fun _ => rfl) (fun _ => Stab.pure _) (fun p lo => qaV lo _) (Ev.of fun n p E s _ => ⟨(Tm.mk p.1 p.2.1 p.2.2.1 0 p.2.2.2).v, s, (s136_eq _ _ _ _ _ _ _).trans ?_, qao _⟩)
 obtain ⟨k, n, m, l⟩ := p
 unfold s136
 have h : bd [u8 0, i64 0, i64 0, i64 0, .sl 0 [] .full] [(0, none, .c (u8 k)), (1, none, .c (i64 n)), (2, none, .c (i64 m)), (4, none, .c (kv l))] = some (Tm.mk k n m 0 l).v := by rw [Tm.v_eq]; rfl
 simp only [h, qal, qaW, qaC, Option.bind_some]
theorem one_u : UC 142 (fun u : Tm => [u.v]) (fun _ _ _ => True) (fun u => (Tm.az 1 u).v) := by
 refine UC.of (cf := cf142) (np := 1) (by kernel_rfl) (by kernel_rfl) (fun _ => rfl) (fun u => by simp only [List.all_cons, qan]; rfl) (fun u => by simp only [List.map_cons, qao]; rfl) (fun _ => Stab.pure _) (fun p lo => qaV lo _) (of_u.mono fun n h u E s _ => ⟨(Tm.az 1 u).v, s, (s142_eq _ _ _ _).trans ?_, qao _⟩)
 have h' := qmP (E := E) 6 1 0 [u] .full (fun E s => h (6, 1, 0, [u]) E s trivial) s
 simp only [List.length_cons, List.length_nil, Nat.zero_add] at h'
 unfold s142
 simp only [qrO, h', qal, qaW, qaC, Option.bind_some, qab]
theorem qvj (y : Vw) : UC 151 (fun p : Tm × Nat => [p.1.v, .ptr p.2 0]) (fun p E s => qaj E s p.2 = some y.c) (fun _ => (Tm.num y.t.m y.t.n).v) := by
 refine UC.of (cf := cf151) (np := 2) (by kernel_rfl) (by kernel_rfl) (fun _ => rfl) (fun _ => by simp only [List.all_cons, qan]; rfl) (fun _ => by simp only [List.map_cons, qao]; rfl) (fun p => Stab.at p.2 _) (fun p lo => qaV lo _) ((qop y.t.m y.t.n).mono fun n h p E s hc => ⟨(Tm.num y.t.m y.t.n).v, s, (s151_eq _ _ _ _ _).trans ?_, qao _⟩)
 have hc' : qaj (qae CP n E).E s p.2 = some y.c := by rw [qaQ]; exact hc
 unfold s151
 simp only [ldP hc', Nat.zero_add, h, qal, qaW, qaC, qjS, qpg, Option.bind_some, qab, qbH]
theorem wr1_u : UC 152 (fun t : Tm => [t.v]) (fun t _ _ => (t.k = 4 ∨ t.k = 18) ∧ ∃ u, t.ks = [u]) (fun t => (b1F .z t).v) := by
 refine UC.of (cf := cf152) (np := 1) (by kernel_rfl) (by kernel_rfl) (fun _ => rfl) (fun u => by simp only [List.all_cons, qan]; rfl) (fun u => by simp only [List.map_cons, qao]; rfl) (fun _ => Stab.pure _) (fun p lo => qaV lo _) (one_u.mono fun n h t E s ⟨hk, u, hu⟩ => ⟨(b1F .z t).v, s, (s152_eq _ _ _ _).trans ?_, qao _⟩)
 obtain ⟨i0, l0⟩ := qcT (n := n) (E := E) (l := [u]) (u := u) rfl
 unfold s152 b1F
 rcases hk with hk | hk
 ·simp only [hk, hu, i0, l0, h u E s trivial, List.headD_cons, if_true, if_false, qal, qaW, qgC, qp3, qaC, qag, qaq, Int.reduceEq, decide_false, qaa, cond_false, Option.map_some, Option.bind_some, qab]
 ·simp only [hk, hu, i0, l0, List.headD_cons, if_false, qal, qaW, qgC, qp3, qaC, qag, qaq, Int.reduceEq, decide_true, qaa, cond_true, Option.map_some, Option.bind_some, qab]
abbrev ini (t : Tm) : Tm := .num t.m t.n
abbrev cid (x : Sc) : Int := Int.ofNat x.ids.length + 1
theorem qiA (x : Sc) : 1 ≤ cid x := by
 have : (0 : Int) ≤ Int.ofNat x.ids.length := Int.natCast_nonneg _
 show (1 : Int) ≤ Int.ofNat x.ids.length + 1
 omega
theorem qgK {x : Sc} {t u : Tm} (g : Gd x t) (hk : t.k = 10) (hu : t.ks = [u]) : AllN (qmR (cid x)) u ∧ u.size ≤ t.size ∧ u.Ok := by
 have hsz := g.sz (by omega) (by omega)
 have hm : u ∈ t.ks := by rw [hu]; exact List.mem_cons_self ..
 have hlt := qa4 hm
 refine ⟨?_, by omega, g.ok.kids u hm⟩
 have gsh := g.sh
 cases gsh with
 | new n m v =>
  simp only [Tm.ks_mk, List.cons.injEq, and_true] at hu
  subst hu
  rw [qeM, Bool.and_eq_true] at hsz
  exact ql5 (qiA x) v.size v _ (Nat.le_refl _) (g.ok.kids v hm) ⟨_, Sc.get_last, rfl, rfl⟩ (.inl hsz.1)
 | _ => simp only [Tm.k_mk] at hk; omega
theorem qtG (id : Int) (t : Tm) (l l' : Int) : isA id t l = isA id t l' := rfl
theorem qtH (id : Int) (t : Tm) (l l' : Int) : isP id t l = isP id t l' := rfl
theorem qr7 (id : Int) (t : Tm) (l l' : Int) : isH id t l = isH id t l' := rfl
def PbU (id : Int) (t : Tm) : Prop := t.i ≠ id ∧ Big t
def PbR (id : Int) (t : Tm) : Prop := (t.i = id → t.k = 3 ∧ t.ks = []) ∧ Big t
def PbW (id : Int) (t : Tm) : Prop := (t.i = id → (t.k = 4 ∧ t.n = 0 ∧ t.m = 0 ∧ ∃ u, t.ks = [u]) ∨ (t.k = 18 ∧ ∃ u, t.ks = [u])) ∧ Big t
theorem qtI {t : Tm} (h : Sh t) (hk : t.k = 3) : t.ks = [] := by
 cases h with
 | get i => rfl
 | _ => simp only [Tm.k_mk] at hk; omega
theorem qtJ {t : Tm} (h : Sh t) (hk : t.k = 4) : t.n = 0 ∧ t.m = 0 ∧ ∃ u, t.ks = [u] := by
 cases h with
 | put i u => exact ⟨rfl, rfl, u, rfl⟩
 | _ => simp only [Tm.k_mk] at hk; omega
theorem qtK {t : Tm} (h : Sh t) (hk : t.k = 18) : ∃ u, t.ks = [u] := by
 cases h with
 | ntc n i u => exact ⟨u, rfl⟩
 | _ => simp only [Tm.k_mk] at hk; omega
theorem allU {id : Int} {u : Tm} (h : AllN (qmR id) u) (hok : okU (qft id u) = true) : AllN (PbU id) u := by
 simp only [okU, qft, Bool.and_eq_true, Bool.not_eq_true'] at hok
 obtain ⟨h1, h2, h3⟩ := hok
 refine (((qdu (qtG id) h1).and (qdu (qtH id) h2)).and ((qdu (qr7 id) h3).and h)).imp fun t ⟨⟨a, p⟩, q, hc, hsh, hb⟩ => ⟨fun hi => ?_, hb⟩
 simp only [isA, isP, isH, hi, decide_true, Bool.true_and, Bool.or_eq_false_iff, decide_eq_false_iff_not] at a p q
 rcases hc hi with k | k | k | k
 ·exact a k
 ·exact p.1 k
 ·exact p.2 k
 ·exact q k
theorem allR {id : Int} {u : Tm} (h : AllN (qmR id) u) (hok : qr5 (qft id u) = true) : AllN (PbR id) u := by
 simp only [qr5, qft, Bool.and_eq_true, Bool.not_eq_true'] at hok
 obtain ⟨_, h2, h3⟩ := hok
 refine (((qdu (qtH id) h2)).and ((qdu (qr7 id) h3).and h)).imp fun t ⟨p, q, hc, hsh, hb⟩ => ⟨fun hi => ?_, hb⟩
 simp only [isP, isH, hi, decide_true, Bool.true_and, Bool.or_eq_false_iff, decide_eq_false_iff_not] at p q
 rcases hc hi with k | k | k | k
 ·exact ⟨k, qtI hsh k⟩
 ·exact absurd k p.1
 ·exact absurd k p.2
 ·exact absurd k q
theorem allW {id : Int} {u : Tm} (h : AllN (qmR id) u) (hok : qr6 (qft id u) = true) : AllN (PbW id) u := by
 simp only [qr6, qft, Bool.and_eq_true, Bool.not_eq_true'] at hok
 obtain ⟨h1, _, h3⟩ := hok
 refine (((qdu (qtG id) h1)).and ((qdu (qr7 id) h3).and h)).imp fun t ⟨a, q, hc, hsh, hb⟩ => ⟨fun hi => ?_, hb⟩
 simp only [isA, isH, hi, decide_true, Bool.true_and, decide_eq_false_iff_not] at a q
 rcases hc hi with k | k | k | k
 ·exact absurd k a
 ·exact .inl ⟨k, qtJ hsh k⟩
 ·exact .inr ⟨k, qtK hsh k⟩
 ·exact absurd k q
def qk3 (x : Sc) (t : Tm) : Option Tm := clR x okU (ini t) t
def qr8 (x : Sc) (t : Tm) : Option Tm := clR x qr5 (ini t) t
def qoD (x : Sc) (t : Tm) : Option Tm := clR x qr6 (ini t) t
theorem qqd (x : Sc) (t : Tm) (g : Gd x t) (hs : t.size ≤ 900000) : RuC 85 x t (qk3 x t) := by
 have hcl := qfb (ι := Unit) (bv := fun _ => .p .nilFunc) (Cb := fun _ _ _ => True) (val := ini t) x t g hs 149 okU qvi (fun _ => rfl) (fun _ => rfl) (fun _ => Stab.pure _) (fun u hk hu hok => by
  obtain ⟨h1, h2, h3⟩ := qgK g hk hu
  exact qgJ (ι := Unit) (bv := fun _ => .p .nilFunc) (Cb := fun _ _ _ => True) (Pb := PbU (cid x)) (id := cid x) (val := ini t) ⟨rfl, rfl, rfl⟩ (qiA x) (fun t h => ⟨fun hi => absurd hi h.1, h.2⟩) (fun _ => Stab.pure _) (fun _ _ _ _ _ => trivial) (fun _ _ _ _ _ _ _ => trivial) (fun _ => rfl) (fun _ => rfl) (fun _ => rfl) (fun _ => rfl) u (by omega) (allU h1 hok)
   (Ev.of fun n p E s t _ h hi => absurd hi h.1))
 refine RuC.of (cf := cf85) (by kernel_rfl) (by kernel_rfl) (hcl.mono fun N h E s => ⟨s, (s85_eq _ _ _ _).trans ?_⟩)
 have h' : cl (qae CP N E) 148 [(vw x t).v, .p (.func 149 [] []), .p .nilFunc] s = some (qe8 (qk3 x t), s) := h () E s trivial
 unfold s85
 simp only [h', qal, qaW, qaC, qay, qbR, Option.bind_some, qab, qah, qar, qas, qaw]
theorem qtL (x : Sc) (t : Tm) (g : Gd x t) (hs : t.size ≤ 900000) : RuC 86 x t (qr8 x t) := by
 have hcl := qfb (ι := Nat) (bv := fun l => .func 151 [] [.ptr l 0]) (Cb := fun l E s => qaj E s l = some (vw x t).c ∧ l < s.next) (val := ini t) x t g hs 150 qr5 qtE (fun _ => rfl) (fun _ => rfl) (fun l => (Stab.at l _).and (fun E s h => h)) (fun u hk hu hok => by
  obtain ⟨h1, h2, h3⟩ := qgK g hk hu
  exact qgJ (ι := Nat) (bv := fun l => .func 151 [] [.ptr l 0]) (Cb := fun l E s => qaj E s l = some (vw x t).c ∧ l < s.next) (Pb := PbR (cid x)) (id := cid x) (val := ini t) ⟨rfl, rfl, rfl⟩ (qiA x) (fun t h => ⟨fun hi => .inl (h.1 hi), h.2⟩) (fun l => (Stab.at l _).and (fun E s h => h))
   (fun l E s o h => ⟨by
    have := qa0 (E := E) (s := qaf s o) (l := l) (m := s.next) (o := o) (H := s.heap) rfl (by omega)
    rw [this]
    exact h.1, Nat.lt_succ_of_lt h.2⟩) (fun l E s s' h e1 e2 => ⟨by rw [qdP e1]; exact h.1, by rw [e2]; exact h.2⟩) (fun _ => rfl) (fun _ => rfl) (fun _ => rfl) (fun _ => rfl) u (by omega) (allR h1 hok)
   (((qvj (vw x t)).and (Ev.ge 1)).mono fun n ⟨h, hn⟩ l E s t' hc hp hi => by
    rw [qg7 CP hn]
    have e : b1F (ini t) t' = ini t := by unfold b1F; rw [if_pos (hp.1 hi).1]
    rw [e]
    exact h (t', l) E s hc.1))
 refine RuC.of (cf := cf86) (by kernel_rfl) (by kernel_rfl) (hcl.mono fun N h E s => ⟨qaf s (.cells (vw x t).c), (s86_eq _ _ _ _).trans ?_⟩)
 have h' : cl (qae CP N E) 148 [(vw x t).v, .p (.func 150 [] []), .func 151 [] [.ptr s.next 0]] (qaf s (.cells (vw x t).c)) = some (qe8 (qr8 x t), qaf s (.cells (vw x t).c)) := h s.next E _ ⟨qaI _ _ _, Nat.lt_succ_self _⟩
 unfold s86
 simp only [h', qal, qaW, qaC, qay, qbR, qcI, Option.bind_some, qab, qah, qar, qas, qaS, qbg, cnd, qci, qaw]
theorem qr9 (x : Sc) (t : Tm) (g : Gd x t) (hs : t.size ≤ 900000) : RuC 87 x t (qoD x t) := by
 have hcl := qfb (ι := Unit) (bv := fun _ => .p (.func 152 [] [])) (Cb := fun _ _ _ => True) (val := ini t) x t g hs 153 qr6 qtF (fun _ => rfl) (fun _ => rfl) (fun _ => Stab.pure _) (fun u hk hu hok => by
  obtain ⟨h1, h2, h3⟩ := qgK g hk hu
  exact qgJ (ι := Unit) (bv := fun _ => .p (.func 152 [] [])) (Cb := fun _ _ _ => True) (Pb := PbW (cid x)) (id := cid x) (val := ini t) ⟨rfl, rfl, rfl⟩ (qiA x) (fun t h => ⟨fun hi => .inr (h.1 hi), h.2⟩) (fun _ => Stab.pure _) (fun _ _ _ _ _ => trivial) (fun _ _ _ _ _ _ _ => trivial) (fun _ => rfl) (fun _ => rfl) (fun _ => rfl) (fun _ => rfl) u (by omega) (allW h1 hok)
   ((wr1_u.and (Ev.ge 1)).mono fun n ⟨h, hn⟩ p E s t' _ hp hi => by
    rw [qeI CP hn]
    have hq := hp.1 hi
    have e : b1F (ini t) t' = b1F .z t' := by
     unfold b1F
     have : ¬ t'.k = 3 := by rcases hq with h | h <;> omega
     rw [if_neg this, if_neg this]
    rw [e]
    refine h t' E s ?_
    rcases hq with ⟨k, _, _, u⟩ | ⟨k, u⟩
    ·exact ⟨.inl k, u⟩
    ·exact ⟨.inr k, u⟩))
 refine RuC.of (cf := cf87) (by kernel_rfl) (by kernel_rfl) (hcl.mono fun N h E s => ⟨s, (s87_eq _ _ _ _).trans ?_⟩)
 have h' : cl (qae CP N E) 148 [(vw x t).v, .p (.func 153 [] []), .p (.func 152 [] [])] s = some (qe8 (qoD x t), s) := h () E s trivial
 unfold s87
 simp only [h', qal, qaW, qaC, qay, qbR, Option.bind_some, qab, qah, qar, qas, qaw]
end Go.AI.Tryz
namespace Go.AI
def qba {σ α : Type} (f : σ → α → σ × Bool) : σ → List α → σ × Bool
 | x, [] => (x, true)
 | x, a :: r => if (f x a).2 then qba f (f x a).1 r else ((f x a).1, false)
theorem qdQ {σ α : Type} (f : σ → α → σ × Bool) : ∀ (l m : List α) (x : σ), qba f x (l ++ m) = if (qba f x l).2 then qba f (qba f x l).1 m else ((qba f x l).1, false)
 | [], m, x => by simp only [List.nil_append, qba, if_true]
 | a :: l, m, x => by
  simp only [List.cons_append, qba]
  split
  ·exact qdQ f l m _
  ·simp only [Bool.false_eq_true, if_false]
end Go.AI
namespace Go.AI.Tryz
def ScOk (x : Sc) : Prop := ∀ e ∈ x.ids, 1 ≤ e.ty.res.n ∧ e.ty.res.n ≤ 64
theorem ScOk.get {x : Sc} (h : ScOk x) {i : Int} {e : Se} (he : x.get i = some e) : 1 ≤ e.ty.res.n ∧ e.ty.res.n ≤ 64 := by
 obtain ⟨j, _, hj⟩ := Sc.get_inv he
 exact h e (List.mem_of_getElem? hj)
theorem ScOk.with {x : Sc} (h : ScOk x) {y : Se} (hy : 1 ≤ y.ty.res.n ∧ y.ty.res.n ≤ 64) : ScOk (x.with y) := by
 intro e he
 simp only [Sc.with, List.mem_append, List.mem_singleton] at he
 rcases he with he | rfl
 ·exact h e he
 ·exact hy
theorem qfU : ∀ (d : Nat) (t : Tm) (x : Sc), t.size ≤ d → ScOk x → (szF x t).2 = true → 1 ≤ (szF x t).1 ∧ (szF x t).1 ≤ 64
 | 0, t, _, h, _, _ => by have := Tm.size_pos t; omega
 | d + 1, t, x, hd, hx, h => by
  have IH : ∀ u ∈ t.ks, ∀ y, ScOk y → (szF y u).2 = true → 1 ≤ (szF y u).1 ∧ (szF y u).1 ≤ 64 := fun u hu y hy hs => qfU d u y (by have := qa4 hu; omega) hy hs
  cases qdq h with
  | num n m => rw [qdx] at h ⊢; simp only [Bool.and_eq_true, isSize_iff] at h; exact h.1
  | use i ks =>
   rw [qgD] at h ⊢
   cases he : x.get i with
   | none => rw [he] at h; cases h
   | some e => exact hx.get he
  | get i =>
   rw [qhE] at h ⊢
   cases he : x.get i with
   | none => rw [he] at h; cases h
   | some e => exact hx.get he
  | val i =>
   rw [qhF] at h ⊢
   cases he : x.get i with
   | none => rw [he] at h; cases h
   | some e => exact hx.get he
  | put i u => rw [qeJ]; exact ⟨Int.le_refl _, by show (1 : Int) ≤ 64; omega⟩
  | whl u w => rw [qfp]; exact ⟨Int.le_refl _, by show (1 : Int) ≤ 64; omega⟩
  | jmp n => rw [qlY]; exact ⟨Int.le_refl _, by show (1 : Int) ≤ 64; omega⟩
  | hang => rw [qit]; exact ⟨Int.le_refl _, by show (1 : Int) ≤ 64; omega⟩
  | op n m u w =>
   rw [qeK] at h ⊢
   split at h
   ·simp only [Bool.and_eq_true, isSize_iff] at h; rename_i h1; simp only [h1, if_true]; exact h.1
   ·split at h
    ·rename_i h1 h2; simp only [h1, h2, if_false, if_true]; exact ⟨by omega, by omega⟩
    ·cases h
  | az n u => rw [qeL] at h ⊢; simp only [Bool.and_eq_true, isSize_iff] at h; exact h.2
  | seq u w => rw [qbQ] at h ⊢; simp only [Bool.and_eq_true] at h; exact IH w (by simp [Tm.ks]) x hx h.1
  | ite c u w => rw [qcm] at h ⊢; simp only [Bool.and_eq_true] at h; exact IH u (by simp [Tm.ks]) x hx h.1.1
  | new n m u =>
   rw [qeM] at h ⊢
   simp only [Bool.and_eq_true, isSize_iff] at h
   exact IH u (by simp [Tm.ks]) _ (hx.with h.2.1) h.1
  | lbl u w => rw [qd6] at h ⊢; simp only [Bool.and_eq_true] at h; exact IH u (by simp [Tm.ks]) { x with size := x.size + 1 } hx h.1
  | cho u w => rw [qd7] at h ⊢; simp only [Bool.and_eq_true] at h; exact IH u (by simp [Tm.ks]) x hx h.1
  | ntc n i u => rw [qd9] at h ⊢; simp only [Bool.and_eq_true] at h; exact IH u (by simp [Tm.ks]) x hx h.1
  | cel i => rw [qfq] at h; cases h
  | obj u w => rw [qd8] at h; cases h
structure Nd (x : Sc) (t : Tm) : Prop where
 w : (szF x t).2 = true ∨ ∃ b, qdA szF x t b = true
 b : x.B t.size
 ok : t.Ok
 sc : ScOk x
theorem Nd.sh {x : Sc} {t : Tm} (h : Nd x t) : Sh t := by
 rcases h.w with h | ⟨b, h⟩
 ·exact qdq h
 ·rcases qeO h with h | ⟨i, e, rfl, _⟩ | ⟨u, w, rfl, _⟩
  ·exact qdq (by rw [h])
  ·exact .cel i
  ·exact .obj u w
theorem Nd.gd {x : Sc} {t : Tm} (h : Nd x t) : Gd x t := by
 refine ⟨h.sh, h.b, fun h1 h2 => ?_, h.ok⟩
 rcases h.w with h | ⟨b, h⟩
 ·exact h
 ·rcases qeO h with h | ⟨i, e, rfl, _⟩ | ⟨u, w, rfl, _⟩
  ·rw [h]
  ·exact absurd rfl h1
  ·exact absurd rfl h2
theorem Nd.size {x : Sc} {t : Tm} (h : Nd x t) : t.size ≤ 1000000 := by have := h.b.1; omega
theorem qvk {x : Sc} {t u : Tm} {j : Nat} (h : x.B t.size) (hu : t.ks[j]? = some u) : (x.kid t j).B u.size := by
 have hlt := qa4 (List.mem_of_getElem? hu)
 unfold Sc.kid
 split
 ·exact qhD h hlt
 ·split
  ·exact qhD h hlt
  ·split
   ·obtain ⟨h1, h2, h3⟩ := h
    exact ⟨by show x.ids.length + _ ≤ _; omega, by show 0 ≤ x.size + 1; omega, by show x.size + 1 + _ ≤ _; omega⟩
   ·exact qm6 h hlt
theorem Nd.kid {x : Sc} {t u : Tm} {j : Nat} (h : Nd x t) (hu : t.ks[j]? = some u) : Nd (x.kid t j) u := by
 have hm := List.mem_of_getElem? hu
 have hb := qvk h.b hu
 have hok := h.ok.kids u hm
 have hB := h.b
 have hOk := h.ok
 have fin : ∀ y, y = x.kid t j → ((szF y u).2 = true ∨ ∃ b, qdA szF y u b = true) → ScOk y → Nd (x.kid t j) u := by
  rintro y rfl h1 h2
  exact ⟨h1, hb, hok, h2⟩
 have sc := h.sc
 have hw : (szF x t).2 = true ∨ (∃ i, t = .cel i) ∨ (∃ v w, ∃ b : Bs, t = .obj v w ∧ szF x v = (b.n, true) ∧ szF (x.with ⟨⟨[], ⟨false, b.n⟩⟩, true⟩) w = (1, true)) := by
  rcases h.w with h | ⟨b, h⟩
  ·exact .inl h
  ·rcases qeO h with h1 | ⟨i, e, h1, _⟩ | ⟨v, w, h1, h2, h3, _⟩
   ·exact .inl (by rw [h1])
   ·exact .inr (.inl ⟨i, h1⟩)
   ·exact .inr (.inr ⟨v, w, b, h1, h2, h3⟩)
 clear h
 rcases hw with h | ⟨i, rfl⟩ | ⟨v, w, b, rfl, h1, h2⟩
 ·cases qdq h with
  | num n m => simp [Tm.ks] at hu
  | use i ks =>
   rw [qgD] at h
   simp only [Bool.and_eq_true] at h
   obtain ⟨b, _, hf⟩ := qfc h.2.2.2 u hm
   exact fin x (by simp [Sc.kid, Tm.k]) (.inr ⟨b, hf⟩) sc
  | get i => simp [Tm.ks] at hu
  | put i v =>
   rw [qeJ, Bool.and_eq_true, is2_iff] at h
   have : u = v := by simpa [Tm.ks] using hm
   subst this
   exact fin x (by simp [Sc.kid, Tm.k]) (.inl (by rw [h.2])) sc
  | op n m v w =>
   rw [qeK] at h
   have hin : is2 (szF x v) m = true ∧ is2 (szF x w) m = true := by
    split at h
    ·simp only [Bool.and_eq_true] at h ⊢; exact h.2
    ·split at h
     ·simp only [Bool.and_eq_true] at h ⊢; exact h.2
     ·cases h
   rw [is2_iff, is2_iff] at hin
   have hc : u = v ∨ u = w := by simpa [Tm.ks] using hm
   rcases hc with rfl | rfl
   ·exact fin x (by simp [Sc.kid, Tm.k]) (.inl (by rw [hin.1])) sc
   ·exact fin x (by simp [Sc.kid, Tm.k]) (.inl (by rw [hin.2])) sc
  | az n v =>
   rw [qeL, Bool.and_eq_true] at h
   have : u = v := by simpa [Tm.ks] using hm
   subst this
   exact fin x (by simp [Sc.kid, Tm.k]) (.inl h.1) sc
  | seq v w =>
   rw [qbQ, Bool.and_eq_true, is2_iff] at h
   have hc : u = v ∨ u = w := by simpa [Tm.ks] using hm
   rcases hc with rfl | rfl
   ·exact fin x (by simp [Sc.kid, Tm.k]) (.inl (by rw [h.2])) sc
   ·exact fin x (by simp [Sc.kid, Tm.k]) (.inl h.1) sc
  | ite c v w =>
   rw [qcm, Bool.and_eq_true, Bool.and_eq_true, is2_iff] at h
   have hc : u = c ∨ u = v ∨ u = w := by simpa [Tm.ks] using hm
   rcases hc with rfl | rfl | rfl
   ·exact fin x (by simp [Sc.kid, Tm.k]) (.inl h.2) sc
   ·exact fin x (by simp [Sc.kid, Tm.k]) (.inl h.1.1) sc
   ·exact fin x (by simp [Sc.kid, Tm.k]) (.inl (by rw [h.1.2])) sc
  | whl v w =>
   rw [qfp, Bool.and_eq_true, is2_iff] at h
   have hc : u = v ∨ u = w := by simpa [Tm.ks] using hm
   rcases hc with rfl | rfl
   ·exact fin x (by simp [Sc.kid, Tm.k]) (.inl h.1) sc
   ·exact fin x (by simp [Sc.kid, Tm.k]) (.inl (by rw [h.2])) sc
  | new n m v =>
   rw [qeM, Bool.and_eq_true, Bool.and_eq_true, isSize_iff] at h
   have : u = v := by simpa [Tm.ks] using hm
   subst this
   exact fin _ (by simp [Sc.kid, Tm.k, Tm.n]) (.inl h.1) (sc.with h.2.1)
  | lbl v w =>
   rw [qd6, Bool.and_eq_true, is2_iff] at h
   match j, hu with
   | 0, hu =>
    have : u = v := by simpa [Tm.ks] using hu.symm
    subst this
    exact fin { x with size := x.size + 1 } (by simp [Sc.kid, Tm.k]) (.inl h.1) sc
   | 1, hu =>
    have : u = w := by simpa [Tm.ks] using hu.symm
    subst this
    exact fin x (by simp [Sc.kid, Tm.k]) (.inl (by rw [h.2])) sc
   | j + 2, hu => simp [Tm.ks] at hu
  | jmp n => simp [Tm.ks] at hu
  | cho v w =>
   rw [qd7, Bool.and_eq_true, is2_iff] at h
   have hc : u = v ∨ u = w := by simpa [Tm.ks] using hm
   rcases hc with rfl | rfl
   ·exact fin x (by simp [Sc.kid, Tm.k]) (.inl h.1) sc
   ·exact fin x (by simp [Sc.kid, Tm.k]) (.inl (by rw [h.2])) sc
  | hang => simp [Tm.ks] at hu
  | val i => simp [Tm.ks] at hu
  | cel i => simp [Tm.ks] at hu
  | obj v w => rw [qd8] at h; cases h
  | ntc n i v =>
   rw [qd9, Bool.and_eq_true] at h
   have : u = v := by simpa [Tm.ks] using hm
   subst this
   exact fin x (by simp [Sc.kid, Tm.k]) (.inl h.1) sc
 ·simp [Tm.ks] at hu
 ·match j, hu with
  | 0, hu =>
   have : u = v := by simpa [Tm.ks] using hu.symm
   subst this
   exact fin x (by simp [Sc.kid, Tm.k]) (.inl (by rw [h1])) sc
  | 1, hu =>
   have : u = w := by simpa [Tm.ks] using hu.symm
   subst this
   have hr := qfU _ v x (Nat.le_refl _) sc (by rw [h1])
   rw [h1] at hr
   exact fin (x.with ⟨⟨[], ⟨false, b.n⟩⟩, true⟩) (by simp [Sc.kid, Tm.k, Tm.ks, h1]) (.inl (by rw [h2])) (sc.with hr)
  | j + 2, hu => simp [Tm.ks] at hu
def qbG (i : Nat) (x : Sc) (t : Tm) : Option Tm :=
 match i with
 | 0 => opR x t | 1 => asR t | 2 => qkV x t | 3 => qdr t | 4 => qkX t | 5 => ifR t | 6 => qkY t | 7 => qp7 t | 8 => qkZ x t | 9 => qk0 t | 10 => qiy t | 11 => qg9 x t
 | 12 => qgE t | 13 => qk3 x t | 14 => qr8 x t | 15 => qoD x t | 16 => qeN x t | 17 => qgI t | 18 => qk1 t | 19 => qes x t | 20 => qer t | 21 => qfr t
 | _ => none
theorem qtM {x : Sc} {t : Tm} (h : Nd x t) (hs : t.size ≤ 900000) : ∀ i, i < 22 → RuC (72 + i) x t (qbG i x t)
 | 0, _ => op_c x t h.gd
 | 1, _ => as_c x t h.sh fun hk => by
  have := h.gd.sz (by omega) (by omega)
  cases h.sh with
  | az n u => rw [qeL, Bool.and_eq_true, isSize_iff] at this; show n ≠ 0; omega
  | _ => simp only [Tm.k_mk] at hk; omega
 | 2, _ => qrR x t h.gd
 | 3, _ => qor x t h.gd
 | 4, _ => qtu x t h.gd
 | 5, _ => if_c x t h.gd
 | 6, _ => qrV x t h.gd
 | 7, _ => qve x t h.gd
 | 8, _ => qtw x t h.gd
 | 9, _ => qtx x t h.gd
 | 10, _ => qty x t h.gd
 | 11, _ => by
  by_cases hk : t.k = 16 ∨ t.k = 17
  ·have hsh := h.sh
   refine qqP x t h.gd ?_
   rcases hk with hk | hk
   ·cases hsh with
    | cel i => rw [qfq]; exact .mk (by omega) (by omega) (by show _ ∧ (0 : Int) ≤ _; omega) (by omega) (by simp) (fun _ h => by cases h)
    | _ => simp only [Tm.k_mk] at hk; omega
   ·cases hsh with
    | obj u w => rw [qd8]; exact .mk (by omega) (by omega) (by show _ ∧ (0 : Int) ≤ _; omega) (by omega) (by simp) (fun _ h => by cases h)
    | _ => simp only [Tm.k_mk] at hk; omega
  ·have hsz := h.gd.sz (by omega) (by omega)
   have := qfU _ t x (Nat.le_refl _) h.sc hsz
   exact qqP x t h.gd (.mk (by omega) (by omega) (by omega) (by omega) (by simp) (fun _ h => by cases h))
 | 12, _ => qrX x t h.gd
 | 13, _ => qqd x t h.gd hs
 | 14, _ => qtL x t h.gd hs
 | 15, _ => qr9 x t h.gd hs
 | 16, _ => qrZ x t h.gd
 | 17, _ => qr2 x t h.gd hs
 | 18, _ => qtz x t h.gd
 | 19, _ => qqb x t h.gd hs
 | 20, _ => qp8 x t h.gd
 | 21, _ => qrY x t h.gd
 | _ + 22, h => absurd h (by omega)
mutual
def qbf : Tm → Sc → List (Sc × Tm)
 | .mk k n m i ks, x => (x, .mk k n m i ks) :: qbC (fun j => x.kid (.mk k n m i ks) j) 0 ks
def qbC (sc : Nat → Sc) : Nat → List Tm → List (Sc × Tm)
 | _, [] => []
 | j, u :: r => qbf u (sc j) ++ qbC sc (j + 1) r
end
theorem qdZ (t : Tm) (x : Sc) : qbf t x = (x, t) :: qbC (fun j => x.kid t j) 0 t.ks := by cases t; rw [qbf]; rfl
theorem qeP : ∀ (d : Nat) (t : Tm) (x : Sc), t.size ≤ d → Nd x t → ∀ p ∈ qbf t x, Nd p.1 p.2 ∧ p.2.size ≤ t.size
 | 0, t, _, h, _ => by have := Tm.size_pos t; omega
 | d + 1, t, x, hd, h => by
  have hk : ∀ (r done : List Tm) (j : Nat), t.ks = done ++ r → done.length = j → ∀ p ∈ qbC (fun j => x.kid t j) j r, Nd p.1 p.2 ∧ p.2.size ≤ t.size := by
   intro r
   induction r with
   | nil => intro done j _ _ p hp; simp only [qbC] at hp; cases hp
   | cons u r ih =>
    intro done j he hl p hp
    simp only [qbC, List.mem_append] at hp
    have hu : t.ks[j]? = some u := by rw [he, List.getElem?_append_right (by omega), hl]; simp
    have hlt := qa4 (List.mem_of_getElem? hu)
    rcases hp with hp | hp
    ·obtain ⟨h1, h2⟩ := qeP d u _ (by omega) (h.kid hu) p hp
     exact ⟨h1, by omega⟩
    ·exact ih (done ++ [u]) (j + 1) (by rw [he]; simp) (by simp [hl]) p hp
  intro p hp
  rw [qdZ, List.mem_cons] at hp
  rcases hp with rfl | hp
  ·exact ⟨h, Nat.le_refl _⟩
  ·exact hk t.ks [] 0 rfl rfl p hp
end Go.AI.Tryz
namespace Go.AI
theorem qde {α : Type} {l : Nat} : ∀ {pre H : List (Nat × α)}, (∀ x ∈ pre, x.1 ≠ l) → qam (pre ++ H) l = qam H l
 | [], _, _ => rfl
 | (k, v) :: pre, H, h => by
  simp only [List.cons_append, qam]
  rw [show Nat.beq k l = false from Tryz.beq_false (h _ (List.mem_cons_self ..)), cond_false]
  exact qde fun x hx => h x (List.mem_cons_of_mem _ hx)
theorem qc2 {α : Type} {l : Nat} {v : α} : ∀ {pre H : List (Nat × α)}, (∀ x ∈ pre, x.1 ≠ l) → qaF (pre ++ H) l v = (qaF H l v).map (pre ++ ·)
 | [], H, _ => by cases h : qaF H l v <;> simp [h]
 | (k, w) :: pre, H, h => by
  simp only [List.cons_append, qaF]
  rw [show Nat.beq k l = false from Tryz.beq_false (h _ (List.mem_cons_self ..)), cond_false, qc2 fun x hx => h x (List.mem_cons_of_mem _ hx)]
  cases qaF H l v <;> rfl
theorem qet {E : qaJ} {s : ASt} {l : Nat} {pre H : qaJ} (h : s.heap = pre ++ H) (hp : ∀ x ∈ pre, x.1 ≠ l) : qaj E s l = qcg E H l := by
 unfold qcg qaj
 rw [h, qde hp]
end Go.AI
namespace Go.AI.Tryz
section
variable {κ σ : Type} {R : κ → σ → qaJ → ASt → Prop} {fv : κ → AVal} {f : σ → Sc × Tm → σ × Bool} {NS : List (Sc × Tm)} {live : Nat → σ → Prop}
def qtN (live : Nat → σ → Prop) (R : κ → σ → qaJ → ASt → Prop) (fv : κ → AVal) (f : σ → Sc × Tm → σ × Bool) (NS : List (Sc × Tm)) (n : Nat) : Prop := ∀ q y E s m, ∀ p ∈ NS, R q y E s → live (m + 22) y → ∃ s', clv (qae CP n E) (fv q) [(vw p.1 p.2).v] s = some (bl (f y p).2, s') ∧ R q (f y p).1 E s' ∧ ((f y p).2 = true → live m (f y p).1)
def qvH (NS : List (Sc × Tm)) (n : Nat) : Prop := ∀ p ∈ NS, ∀ (j : Nat) u, p.2.ks[j]? = some u → ∀ E s, cl (qae CP n E) 132 [(vw p.1 p.2).v, i64 (.ofNat j)] s = some ((vw (p.1.kid p.2 j) u).v, s)
theorem qqS (ha : ∀ q, qbj (fv q) = true) (he : ∀ q, qaA (fv q) = fv q) (hf : Ev fun n => qtN live R fv f NS n) (hk : Ev fun n => qvH NS n) :
  ∀ d, d ≤ 1000000 → Ev fun n => ∀ q (t : Tm) x, t.size ≤ d → (∀ p ∈ qbf t x, p ∈ NS) → ∀ y E s m, R q y E s → live (m + 22 * t.size) y → ∃ s', cl (qae CP n E) 95 [(vw x t).v, fv q] s = some (bl (qba f y (qbf t x)).2, s') ∧ R q (qba f y (qbf t x)).1 E s' ∧ ((qba f y (qbf t x)).2 = true → live m (qba f y (qbf t x)).1)
 | 0, _ => Ev.of fun n q t x h => by have := Tm.size_pos t; omega
 | d + 1, hd => by
  refine Ev.succ (((hf.and hk).and ((qqS ha he hf hk d (by omega)).and (Ev.ge (d + 3)))).mono fun n ⟨⟨hf, hk⟩, ih, hn⟩ q t x hsz hmem y E s m hr hlv => ?_)
  suffices ∃ s', s95 (qae CP n E) n (vw x t).v (fv q) s = some (bl (qba f y (qbf t x)).2, s') ∧ R q (qba f y (qbf t x)).1 E s' ∧ ((qba f y (qbf t x)).2 = true → live m (qba f y (qbf t x)).1) by
   obtain ⟨s', e1, e2, e3⟩ := this
   refine ⟨s', ?_, e2, e3⟩
   rw [qbL]
   exact qe4 (cf := cf95) (np := 2) (args' := [(vw x t).v, fv q]) (v := bl (qba f y (qbf t x)).2) (by kernel_rfl) (by kernel_rfl) rfl (by simp only [List.all_cons, qcx, ha]; rfl) (by simp only [List.map_cons, qcy, he]; rfl) ((s95_eq _ _ _ _ _).trans e1) rfl rfl
  have hself : (x, t) ∈ NS := hmem _ (by rw [qdZ]; exact List.mem_cons_self ..)
  have hts := Tm.size_ks t
  rw [hts] at hlv
  obtain ⟨s1, a1, a2, a3⟩ := hf q y E s (m + 22 * Tm.sizeL t.ks) (x, t) hself hr (by rw [show m + 22 * Tm.sizeL t.ks + 22 = m + 22 * (1 + Tm.sizeL t.ks) by omega]; exact hlv)
  rw [qdZ, qba]
  rw [qdZ] at hmem
  unfold s95
  cases hgo : (f y (x, t)).2 with
  | false =>
   rw [hgo] at a1
   simp only [a1, Bool.false_eq_true, if_false, qay, qbR, qbV, vwt, Bool.not_false, qaa, cond_true, Option.bind_some, qab, qau, qcV]
   exact ⟨s1, rfl, a2, fun h => by cases h⟩
  | true =>
   rw [hgo] at a1
   simp only [a1, if_true, qay, qbR, qbV, vwt, Bool.not_true, qaa, cond_false, Option.bind_some, qab, qau, qcV]
   unfold s95_0
   generalize hF : (fun (h12 : AVal → ASt → Res) (x10 : AVal) (s11 : ASt) => _) = F
   have hlen := Tm.len_le_size t.ks
   have key : ∀ (r done : List Tm) (j k : Nat) (y : σ) (s : ASt), t.ks = done ++ r → done.length = j → r.length < k → R q y E s → live (m + 22 * Tm.sizeL r) y → ∃ s', lp (fun _ _ => none) F k (i64 (.ofNat j)) s = some (bl (qba f y (qbC (fun j => x.kid t j) j r)).2, s') ∧ R q (qba f y (qbC (fun j => x.kid t j) j r)).1 E s' ∧ ((qba f y (qbC (fun j => x.kid t j) j r)).2 = true → live m (qba f y (qbC (fun j => x.kid t j) j r)).1) := by
    intro r
    induction r with
    | nil =>
     intro done j k y s h1 h2 hk hr hlv
     obtain ⟨k, rfl⟩ : ∃ m, k = m + 1 := ⟨k - 1, by simp only [List.length_nil] at hk; omega⟩
     rw [qa9]
     generalize lp _ F k = L
     subst hF
     have hj : j = t.ks.length := by rw [h1]; simp [h2]
     have hnl : ¬ (Int.ofNat j < Int.ofNat t.ks.length) := fun h => by have := of_lt.1 h; omega
     simp only [hnl, qbC, qba, qbR, qag, qaE, qaH, decide_false, qaa, cond_false, Option.map_some, Option.bind_some]
     exact ⟨s, rfl, hr, fun _ => by simpa only [Tm.sizeL, Nat.mul_zero, Nat.add_zero] using hlv⟩
    | cons u r ih2 =>
     intro done j k y s h1 h2 hk2 hr hlv
     obtain ⟨k, rfl⟩ : ∃ m, k = m + 1 := ⟨k - 1, by simp only [List.length_cons] at hk2; omega⟩
     have hu : t.ks[j]? = some u := by rw [h1, List.getElem?_append_right (by omega), h2]; simp
     have hjl : j < t.ks.length := (List.getElem?_eq_some_iff.1 hu).1
     have hus : u.size < t.size := qa4 (List.mem_of_getElem? hu)
     have hkid := hk (x, t) hself j u hu E
     have hsub : ∀ p ∈ qbC (fun j => x.kid t j) j (u :: r), p ∈ qbC (fun j => x.kid t j) 0 t.ks := by
      have : ∀ (dn : List Tm) (i : Nat) (rest : List Tm) p, p ∈ qbC (fun j => x.kid t j) (i + dn.length) rest → p ∈ qbC (fun j => x.kid t j) i (dn ++ rest) := by
       intro dn
       induction dn with
       | nil => intro i rest p hp; exact hp
       | cons v dn ih3 =>
        intro i rest p hp
        simp only [List.cons_append, qbC, List.mem_append]
        right
        refine ih3 (i + 1) rest p ?_
        rw [List.length_cons] at hp
        rw [show i + 1 + dn.length = i + (dn.length + 1) by omega]
        exact hp
      intro p hp
      rw [h1]
      exact this done 0 _ p (by rw [Nat.zero_add, h2]; exact hp)
     have hmu : ∀ p ∈ qbf u (x.kid t j), p ∈ NS := fun p hp => hmem p (List.mem_cons_of_mem _ (hsub p (by simp only [qbC, List.mem_append]; exact .inl hp)))
     obtain ⟨s2, b1, b2, b3⟩ := ih q u (x.kid t j) (by omega) hmu y E s (m + 22 * Tm.sizeL r) hr (by rw [show m + 22 * Tm.sizeL r + 22 * u.size = m + 22 * (u.size + Tm.sizeL r) by omega]; exact hlv)
     simp only [qbC, qdQ]
     have hw := qa7 (show j < 9223372036854775807 by omega)
     cases hg2 : (qba f y (qbf u (x.kid t j))).2 with
     | false =>
      rw [hg2] at b1
      rw [qa9]
      generalize lp _ F k = L
      subst hF
      simp only [of_lt.2 hjl, hkid, b1, Bool.false_eq_true, if_false, qbR, qag, qaE, qaH, decide_true, Bool.not_false, qaa, cond_true, Option.map_some, Option.bind_some, qab, qau]
      exact ⟨s2, rfl, b2, fun h => by cases h⟩
     | true =>
      rw [hg2] at b1
      obtain ⟨s3, c1, c2, c3⟩ := ih2 (done ++ [u]) (j + 1) k _ s2 (by rw [h1]; simp) (by simp [h2]) (by simp only [List.length_cons] at hk2; omega) b2 (b3 hg2)
      rw [qa9]
      generalize lp _ F k = L at c1 ⊢
      subst hF
      simp only [of_lt.2 hjl, hkid, b1, hw, if_true, qbR, qag, qaE, qaH, decide_true, Bool.not_true, qaa, cond_true, cond_false, Option.map_some, Option.bind_some, qab, qau]
      exact ⟨s3, c1, c2, c3⟩
   exact key t.ks [] 0 n _ s1 rfl rfl (by omega) a2 (a3 hgo)
end
def nm : Nat → ByteArray
 | 0 => ⟨#[111, 112]⟩ | 1 => ⟨#[97, 115]⟩ | 2 => ⟨#[115, 105, 122, 101]⟩ | 3 => ⟨#[110, 101, 117, 116, 114, 97, 108]⟩ | 4 => ⟨#[115, 119, 97, 112]⟩ | 5 => ⟨#[105, 102]⟩ | 6 => ⟨#[115, 97, 109, 101]⟩ | 7 => ⟨#[110, 111, 116]⟩ | 8 => ⟨#[98, 111, 111, 108]⟩ | 9 => ⟨#[115, 107, 105, 112]⟩ | 10 => ⟨#[110, 101, 115, 116]⟩
 | 11 => ⟨#[100, 101, 97, 100]⟩ | 12 => ⟨#[119, 104, 105, 108, 101]⟩ | 13 => ⟨#[117, 110, 117, 115, 101, 100]⟩ | 14 => ⟨#[114, 101, 97, 100]⟩ | 15 => ⟨#[119, 114, 105, 116, 101]⟩ | 16 => ⟨#[107, 110, 111, 119, 110]⟩ | 17 => ⟨#[108, 97, 98, 101, 108]⟩ | 18 => ⟨#[106, 117, 109, 112]⟩ | 19 => ⟨#[110, 111, 116, 105, 99, 101]⟩ | 20 => ⟨#[99, 104, 111, 111, 115, 101]⟩ | _ => ⟨#[110, 101, 118, 101, 114]⟩
def ruC (i : Nat) : List PVal := [.str (nm i), .func (72 + i) [] []]
def ruL : List Nat := [0, 1, 2, 3, 4, 5, 6, 7, 8, 9, 10, 11, 12, 13, 14, 15, 16, 17, 18, 19, 20, 21]
abbrev ruV : AVal := .p (.sl 22 (qaU ruC ruL))
theorem qoE : PC CP 50 [] ruV := by
 refine PC.of2 (cf := cf50) (np := 0) (args' := []) (by kernel_rfl) (by kernel_rfl) rfl rfl rfl (fun _ => rfl) (Ev.of fun n E s => ⟨.sl 22 (qaU ruC ruL) .full, s, (s50_eq _ _ _).trans ?_, rfl⟩)
 rfl
theorem qoF {i : Nat} (h : i < 22) : ruL[i]? = some i := by
 match i, h with
 | 0, _ => rfl | 1, _ => rfl | 2, _ => rfl | 3, _ => rfl | 4, _ => rfl | 5, _ => rfl | 6, _ => rfl | 7, _ => rfl | 8, _ => rfl | 9, _ => rfl | 10, _ => rfl
 | 11, _ => rfl | 12, _ => rfl | 13, _ => rfl | 14, _ => rfl | 15, _ => rfl | 16, _ => rfl | 17, _ => rfl | 18, _ => rfl | 19, _ => rfl | 20, _ => rfl | 21, _ => rfl
 | _ + 22, h => exact absurd h (by omega)
end Go.AI.Tryz
namespace Go.AI.Tryz
abbrev Of := Int × Int × Tm
def rwV (o : Of) : AVal := .agg [u8 o.1, i64 o.2.1]
def qdy (sm : Int → Bool) (x : Sc) (t : Tm) (at_ : Int) : List Of := ruL.filterMap fun i => if sm (.ofNat (i + 1)) then (qbG i x t).map fun u => (.ofNat (i + 1), at_, u) else none
def qeu (sm : Int → Bool) : Int → List (Sc × Tm) → List Of
 | _, [] => []
 | at_, p :: r => qdy sm p.1 p.2 at_ ++ qeu sm (at_ + 1) r
def qmS (sm : Int → Bool) : Int → List (Sc × Tm) → List Of
 | _, [] => []
 | at_, p :: r => qdy sm p.1 p.2 at_ ++ qmS sm (qa8 .i64 (at_ + 1)) r
theorem ql6 (sm : Int → Bool) : ∀ (r : List (Sc × Tm)) (at_ : Int), 0 ≤ at_ → at_ + r.length ≤ 1000000000 → qmS sm at_ r = qeu sm at_ r
 | [], _, _, _ => rfl
 | p :: r, a, h0, h1 => by
  simp only [List.length_cons] at h1
  simp only [qmS, qeu]
  rw [qbT (by omega) (by omega), ql6 sm r (a + 1) (by omega) (by omega)]
def f96 {σ : Type} (st : σ → Of → σ × Bool) (sm : Int → Bool) : σ × Int → Sc × Tm → (σ × Int) × Bool := fun z p =>
 if (qba st z.1 (qdy sm p.1 p.2 z.2)).2 then (((qba st z.1 (qdy sm p.1 p.2 z.2)).1, qa8 .i64 (z.2 + 1)), true) else (((qba st z.1 (qdy sm p.1 p.2 z.2)).1, z.2), false)
theorem qqT {σ : Type} (st : σ → Of → σ × Bool) (sm : Int → Bool) : ∀ (l : List (Sc × Tm)) (y : σ) (a : Int), (qba (f96 st sm) (y, a) l).1.1 = (qba st y (qmS sm a l)).1 ∧ (qba (f96 st sm) (y, a) l).2 = (qba st y (qmS sm a l)).2
 | [], y, a => ⟨rfl, rfl⟩
 | p :: l, y, a => by
  simp only [qba, qmS, qdQ, f96]
  cases h : (qba st y (qdy sm p.1 p.2 a)).2 with
  | true =>
   simp only [if_true]
   exact qqT st sm l _ _
  | false => simp only [Bool.false_eq_true, if_false, and_self]
theorem qsa {m : Nat} (h : m < 256) : qa8 .u8 (.ofNat m) = .ofNat m := by
 show cond (Nat.blt m 256) _ _ = _
 rw [blt_iff.2 h, cond_true]
abbrev qkd (s : ASt) : Nat × List (Nat × Nat × Nat) := (s.ntok, s.toks)
section
variable {κ σ : Type} (N0 l7 : κ → Nat) (yv someV : κ → AVal) (U : κ → σ → qaJ → qaJ → Nat × List (Nat × Nat × Nat) → Prop) (st : σ → Of → σ × Bool) (sm : Int → Bool) (OS : Tm → Prop) (live : Nat → σ → Prop)
def YC (n : Nat) : Prop := ∀ q y E H pre s (o : Of) (m : Nat), OS o.2.2 → s.heap = pre ++ H → (∀ x ∈ pre, N0 q ≤ x.1) → N0 q ≤ s.next → U q y E H (qkd s) → live (m + 1) y →
 ∃ s' H', clv (qae CP n E) (yv q) [rwV o, o.2.2.v] s = some (bl (st y o).2, s') ∧ s'.heap = pre ++ H' ∧ s'.next = s.next ∧ U q (st y o).1 E H' (qkd s') ∧ ((st y o).2 = true → live m (st y o).1)
def SmC (n : Nat) : Prop := ∀ q y E H pre s i, i < 22 → s.heap = pre ++ H → (∀ x ∈ pre, N0 q ≤ x.1) → U q y E H (qkd s) → clv (qae CP n E) (someV q) [u8 (.ofNat (i + 1))] s = some (bl (sm (.ofNat (i + 1))), s)
def RuA (NS : List (Sc × Tm)) (n : Nat) : Prop := ∀ p ∈ NS, ∀ i, i < 22 → ∀ E s, cl (qae CP n E) (72 + i) [(vw p.1 p.2).v] s = some (qe8 (qbG i p.1 p.2), s)
def qjY (q : κ) (M : Nat) (a : Int) : qaJ := [(M + 2, .cells [ruV]), (M + 1, .cells [i64 a]), (M, .cells [yv q])]
def R96 (q : κ × Nat) (z : σ × Int) (E : qaJ) (s : ASt) : Prop := ∃ H, s.heap = qjY yv q.1 q.2 z.2 ++ H ∧ s.next = q.2 + 3 ∧ N0 q.1 ≤ q.2 ∧ U q.1 z.1 E H (qkd s)
variable {N0 l7 yv someV U st sm OS live}
theorem qvl {NS : List (Sc × Tm)} (hmono : ∀ m y, live (m + 1) y → live m y) (hU : ∀ q y E H tk, U q y E H tk → qcg E H (l7 q) = some [someV q] ∧ l7 q < N0 q) (hOS : ∀ p ∈ NS, ∀ i, i < 22 → ∀ u, qbG i p.1 p.2 = some u → OS u)
  (hy : Ev fun n => YC N0 yv U st OS live n) (hs : Ev fun n => SmC N0 someV U sm n) (hr : Ev fun n => RuA NS n) :
  Ev fun n => qtN (fun m z => live m z.1) (R96 N0 yv U) (fun q => .func 96 [] [.ptr (q.2 + 2) 0, .ptr (l7 q.1) 0, .ptr q.2 0, .ptr (q.2 + 1) 0]) (f96 st sm) NS n := by
 refine Ev.succ ((((hy.and hs).and (hr.and (Ev.ge 30)))).mono fun n ⟨⟨hy, hs⟩, hr, hn⟩ q z E s m p hp ⟨H, r1, r2, r3, r4⟩ hlv => ?_)
 rw [qg7 CP (by omega)]
 simp only [List.nil_append, List.cons_append]
 obtain ⟨q, M⟩ := q
 obtain ⟨y, a⟩ := z
 obtain ⟨x, t⟩ := p
 simp only at r1 r2 r3 r4 hlv
 suffices ∃ s', s96 (qae CP n E) n (vw x t).v (.ptr (M + 2) 0) (.ptr (l7 q) 0) (.ptr M 0) (.ptr (M + 1) 0) s = some (bl (f96 st sm (y, a) (x, t)).2, s') ∧ R96 N0 yv U (q, M) (f96 st sm (y, a) (x, t)).1 E s' ∧ ((f96 st sm (y, a) (x, t)).2 = true → live m (f96 st sm (y, a) (x, t)).1.1) by
  obtain ⟨s', e1, e2, e3⟩ := this
  refine ⟨s', ?_, e2, e3⟩
  rw [qbL]
  exact qe4 (cf := cf96) (np := 5) (args' := [(vw x t).v, .ptr (M + 2) 0, .ptr (l7 q) 0, .ptr M 0, .ptr (M + 1) 0]) (v := bl (f96 st sm (y, a) (x, t)).2) (by kernel_rfl) (by kernel_rfl) rfl rfl rfl ((s96_eq _ _ _ _ _ _ _ _).trans e1) rfl rfl
 have hpre : ∀ b : Int, ∀ v ∈ qjY yv q M b, N0 q ≤ v.1 := by
  intro b v hv
  simp only [qjY, List.mem_cons, List.not_mem_nil, or_false] at hv
  rcases hv with rfl | rfl | rfl <;> simp only <;> omega
 have c2 : ∀ (s : ASt) H, s.heap = qjY yv q M a ++ H → qaj (qae CP n E).E s (M + 2) = some [ruV] := fun s H h => by rw [qaQ]; exact qaT h
 have c1 : ∀ (s : ASt) H, s.heap = qjY yv q M a ++ H → qaj (qae CP n E).E s (M + 1) = some [i64 a] := fun s H h => by
  rw [qaQ, qa0 h (by omega)]
  exact qaT (s := { s with heap := (M + 1, .cells [i64 a]) :: (M, .cells [yv q]) :: H }) rfl
 have c0 : ∀ (s : ASt) H, s.heap = qjY yv q M a ++ H → qaj (qae CP n E).E s M = some [yv q] := fun s H h => by
  have h' : s.heap = (M + 1 + 1, .cells [ruV]) :: (M + 1, .cells [i64 a]) :: (M, .cells [yv q]) :: H := h
  rw [qaQ, qhG h' (by omega)]
  exact qaT (s := ⟨0, (M, .cells [yv q]) :: H, 0, []⟩) rfl
 have c7 : ∀ (s : ASt) H y, s.heap = qjY yv q M a ++ H → U q y E H (qkd s) → qaj (qae CP n E).E s (l7 q) = some [someV q] := fun s H y h hu => by
  obtain ⟨h1, h2⟩ := hU q y E H _ hu
  rw [qaQ, qet h fun v hv => by have := hpre a v hv; omega]
  exact h1
 have one : ∀ v : AVal, ldL [v] 0 none = some v := fun _ => rfl
 unfold s96
 simp only [ldP (c2 s H r1), one, qay, Option.bind_some, qcV]
 unfold s96_2
 generalize hF : (fun (h16 : AVal → Nat → Nat → List AVal → List AVal → List AVal → ASt → Res) (x9 : AVal) (g10 g11 : Nat) (c12 c13 c14 : List AVal) (s15 : ASt) => _) = F
 have key : ∀ (r : List Nat) (j k g g' : Nat) (c c' : List AVal) (y : σ) (s : ASt) (H : qaJ), ruL.drop j = r → j + r.length = 22 → r.length < k → s.heap = qjY yv q M a ++ H → s.next = M + 3 → U q y E H (qkd s) → live (m + r.length) y →
   ∃ s', lp (fun _ _ _ _ _ _ _ => none) F k (i64 (.ofNat j)) g g' (vw x t).c c c' s = some (bl (qba st y (r.filterMap fun i => if sm (.ofNat (i + 1)) then (qbG i x t).map fun u => ((.ofNat (i + 1) : Int), a, u) else none)).2, s') ∧
    ((qba st y (r.filterMap fun i => if sm (.ofNat (i + 1)) then (qbG i x t).map fun u => ((.ofNat (i + 1) : Int), a, u) else none)).2 = true → R96 N0 yv U (q, M) ((qba st y (r.filterMap fun i => if sm (.ofNat (i + 1)) then (qbG i x t).map fun u => ((.ofNat (i + 1) : Int), a, u) else none)).1, qa8 .i64 (a + 1)) E s' ∧ live m (qba st y (r.filterMap fun i => if sm (.ofNat (i + 1)) then (qbG i x t).map fun u => ((.ofNat (i + 1) : Int), a, u) else none)).1) ∧
    ((qba st y (r.filterMap fun i => if sm (.ofNat (i + 1)) then (qbG i x t).map fun u => ((.ofNat (i + 1) : Int), a, u) else none)).2 = false → R96 N0 yv U (q, M) ((qba st y (r.filterMap fun i => if sm (.ofNat (i + 1)) then (qbG i x t).map fun u => ((.ofNat (i + 1) : Int), a, u) else none)).1, a) E s') := by
  intro r
  induction r with
  | nil =>
   intro j k g g' c c' y s H h1 h2 hk r1 r2 r4 hlv
   obtain ⟨k, rfl⟩ : ∃ m, k = m + 1 := ⟨k - 1, by simp only [List.length_nil] at hk; omega⟩
   rw [qa9]
   generalize lp _ F k = L
   subst hF
   have hj : j = 22 := by simpa using h2
   subst hj
   have hnl : ¬ (Int.ofNat 22 < Int.ofNat 22) := by omega
   have b2 : Nat.beq (M + 2) (M + 1) = false := beq_false (by omega)
   have hst : stH s (.ptr (M + 1) 0) [i64 (qa8 .i64 (a + 1))] = some { s with heap := qjY yv q M (qa8 .i64 (a + 1)) ++ H } := by
    have ho : over [i64 a] 0 [i64 (qa8 .i64 (a + 1))] = some [i64 (qa8 .i64 (a + 1))] := rfl
    have haw : [i64 (qa8 .i64 (a + 1))].all qaK = true := rfl
    simp only [stH, qbu, r1, qjY, List.cons_append, List.nil_append, qam, qaF, b2, qaz rfl, cond_true, cond_false, haw, ho, Option.bind_some, Option.map_some]
   refine ⟨{ s with heap := qjY yv q M (qa8 .i64 (a + 1)) ++ H }, ?_, fun _ => ⟨⟨H, rfl, r2, r3, r4⟩, hlv⟩, fun h => by cases h⟩
   simp only [hnl, ldP (c1 s H r1), one, qbh, hst, List.filterMap_nil, qba, qbR, qag, qaE, qaH, decide_false, qaa, cond_false, qav, Option.map_some, Option.bind_some, cnd]
  | cons i r ih =>
   intro j k g g' c c' y s H h1 h2 hk r1 r2 r4 hlv
   obtain ⟨k, rfl⟩ : ∃ m, k = m + 1 := ⟨k - 1, by simp only [List.length_cons] at hk; omega⟩
   simp only [List.length_cons] at h2 hk
   have hj22 : j < 22 := by omega
   have hij : i = j ∧ ruL.drop (j + 1) = r := by
    have hg := qoF hj22
    have hjl : j < ruL.length := hj22
    rw [List.drop_eq_getElem_cons hjl] at h1
    injection h1 with e1 e2
    rw [List.getElem?_eq_getElem hjl, Option.some.injEq] at hg
    exact ⟨e1.symm.trans hg, e2⟩
   obtain ⟨rfl, hrd⟩ := hij
   have hlt : Int.ofNat i < Int.ofNat 22 := of_lt.2 hj22
   have hia : iaV 2 ruV (i64 (.ofNat i)) = some (qaU ruC ruL, i * 2) := qcY (c := ruC) (sz := 2) (l := ruL) hj22
   have hld : ∀ s, ldH (qae CP n E) s (.elem (qaU ruC ruL) (i * 2)) (some 2) = some (.agg [.p (.str (nm i)), .p (.func (72 + i) [] [])]) := fun s => qd4 (c := ruC) (sz := 2) (fun _ => rfl) _ s (qoF hj22)
   have hw := qa7 (show i < 9223372036854775807 by omega)
   have hw8 := qsa (show i + 1 < 256 by omega)
   have hsm := hs q y E H (qjY yv q M a) s i hj22 r1 (hpre a) r4
   have hru := hr (x, t) hp i hj22 E s
   have ho2 : ∀ a b c d : AVal, over [a, b] 0 [c, d] = some [c, d] := fun _ _ _ _ => rfl
   have hl1 : ∀ a b : AVal, ldL [a, b] 1 none = some b := fun _ _ => rfl
   have hclf : ∀ args s, clv (qae CP n E) (.p (.func (72 + i) [] [])) args s = cl (qae CP n E) (72 + i) args s := fun args s => qeI CP (by omega) E _ args s
   have cl2 : ∀ a b : AVal, AVal.cells (some 2) (.agg [a, b]) = some [a, b] := fun _ _ => rfl
   cases hsmi : sm (.ofNat (i + 1)) with
   | false =>
    rw [hsmi] at hsm
    have hnext := ih (i + 1) k (g + 1) g' [.p (.str (nm i)), .p (.func (72 + i) [] [])] c' y s H hrd (by omega) (by omega) r1 r2 r4 (hmono _ _ hlv)
    have hfm : (List.filterMap (fun i => if sm (.ofNat (i + 1)) then (qbG i x t).map fun u => ((.ofNat (i + 1) : Int), a, u) else none) (i :: r)) = r.filterMap fun i => if sm (.ofNat (i + 1)) then (qbG i x t).map fun u => ((.ofNat (i + 1) : Int), a, u) else none := by
     rw [List.filterMap_cons_none]; simp only [hsmi, Bool.false_eq_true, if_false]
    rw [hfm]
    obtain ⟨s', e1, e2, e3⟩ := hnext
    refine ⟨s', ?_, e2, e3⟩
    rw [qa9]
    generalize lp _ F k = L at e1 ⊢
    subst hF
    unfold s96_0
    simp only [hlt, hia, hld, cl2, ho2, Nat.beq_refl, hw, qjJ, hw8, ldP (c7 s H y r1 r4), one, hsm, qbR, qag, qaE, qaH, decide_true, Bool.not_false, qaa, cond_true, qav, Option.map_some, Option.bind_some, qab, qau, cnd]
    exact e1
   | true =>
    rw [hsmi] at hsm
    cases hrl : qbG i x t with
    | none =>
     rw [hrl] at hru
     have hnext := ih (i + 1) k (g + 1) (g' + 1) [.p (.str (nm i)), .p (.func (72 + i) [] [])] Tm.z.c y s H hrd (by omega) (by omega) r1 r2 r4 (hmono _ _ hlv)
     have hfm : (List.filterMap (fun i => if sm (.ofNat (i + 1)) then (qbG i x t).map fun u => ((.ofNat (i + 1) : Int), a, u) else none) (i :: r)) = r.filterMap fun i => if sm (.ofNat (i + 1)) then (qbG i x t).map fun u => ((.ofNat (i + 1) : Int), a, u) else none := by
      rw [List.filterMap_cons_none]; simp only [hsmi, hrl, if_true, Option.map_none]
     rw [hfm]
     obtain ⟨s', e1, e2, e3⟩ := hnext
     refine ⟨s', ?_, e2, e3⟩
     rw [qa9]
     generalize lp _ F k = L at e1 ⊢
     subst hF
     unfold s96_1 s96_0
     simp only [hlt, hia, hld, cl2, ho2, hl1, Nat.beq_refl, hw, qjJ, hw8, ldP (c7 s H y r1 r4), one, hsm, hclf, hru, qal, qaC, qbR, qag, qaE, qaH, decide_true, Bool.not_true, qaa, cond_true, cond_false, qav, Option.map_some, Option.bind_some, qab, qah, qar, qas, qau, cnd, qaw, Option.getD_none, Option.isSome_none]
     exact e1
    | some u =>
     rw [hrl] at hru
     have hyc := hy q y E H (qjY yv q M a) s (.ofNat (i + 1), a, u) (m + r.length) (hOS (x, t) hp i hj22 u hrl) r1 (hpre a) (by omega) r4 hlv
     obtain ⟨s1, H1, y1, y2, y3, y4, y5⟩ := hyc
     have y1' : clv (qae CP n E) (yv q) [.agg [u8 (.ofNat (i + 1)), i64 a], u.v] s = some (bl (st y (.ofNat (i + 1), a, u)).2, s1) := y1
     have hbd : bd [u8 0, i64 0] [(0, none, .c (u8 (.ofNat (i + 1)))), (1, none, .c (i64 a))] = some (.agg [u8 (.ofNat (i + 1)), i64 a]) := rfl
     have hfm : (List.filterMap (fun i => if sm (.ofNat (i + 1)) then (qbG i x t).map fun u => ((.ofNat (i + 1) : Int), a, u) else none) (i :: r)) = (.ofNat (i + 1), a, u) :: r.filterMap fun i => if sm (.ofNat (i + 1)) then (qbG i x t).map fun u => ((.ofNat (i + 1) : Int), a, u) else none := by
      rw [List.filterMap_cons_some]; simp only [hsmi, hrl, if_true, Option.map_some]
     rw [hfm]
     simp only [qba]
     cases hb : (st y (.ofNat (i + 1), a, u)).2 with
     | false =>
      rw [hb] at y1'
      refine ⟨s1, ?_, fun h => by simp at h, fun _ => ?_⟩
      ·rw [qa9]
       generalize lp _ F k = L
       subst hF
       unfold s96_1
       simp only [hlt, hia, hld, cl2, ho2, hl1, Nat.beq_refl, hw, qjJ, hw8, ldP (c7 s H y r1 r4), ldP (c0 s H r1), ldP (c1 s H r1), one, hsm, hclf, hru, hbd, y1', Bool.false_eq_true, if_false, qal, qaW, qaC, qbR, qag, qaE, qaH, decide_true, Bool.not_true, Bool.not_false, qaa, cond_true, cond_false, qav, Option.map_some, Option.bind_some, qab, qah, qar, qas, qau, cnd, qaw, Option.getD_some, Option.isSome_some]
      ·simp only [Bool.false_eq_true, if_false]
       exact ⟨H1, y2, y3.trans r2, r3, y4⟩
     | true =>
      rw [hb] at y1'
      simp only [if_true]
      have hnext := ih (i + 1) k (g + 1) (g' + 1) [.p (.str (nm i)), .p (.func (72 + i) [] [])] u.c (st y (.ofNat (i + 1), a, u)).1 s1 H1 hrd (by omega) (by omega) y2 (y3.trans r2) y4 (y5 hb)
      obtain ⟨s', e1, e2, e3⟩ := hnext
      refine ⟨s', ?_, e2, e3⟩
      rw [qa9]
      generalize lp _ F k = L at e1 ⊢
      subst hF
      unfold s96_1 s96_0
      simp only [hlt, hia, hld, cl2, ho2, hl1, Nat.beq_refl, hw, qjJ, hw8, ldP (c7 s H y r1 r4), ldP (c0 s H r1), ldP (c1 s H r1), one, hsm, hclf, hru, hbd, y1', qal, qaW, qaC, qbR, qag, qaE, qaH, decide_true, Bool.not_true, qaa, cond_true, cond_false, qav, Option.map_some, Option.bind_some, qab, qah, qar, qas, qau, cnd, qaw, Option.getD_some, Option.isSome_some]
      exact e1
 obtain ⟨s', e1, e2, e3⟩ := key ruL 0 n 0 0 [] [] y s H rfl rfl (by show 22 < n; omega) r1 r2 r4 hlv
 have hoff : (ruL.filterMap fun i => if sm (.ofNat (i + 1)) then (qbG i x t).map fun u => ((.ofNat (i + 1) : Int), a, u) else none) = qdy sm x t a := rfl
 rw [hoff] at e1 e2 e3
 unfold f96
 simp only
 cases hb : (qba st y (qdy sm x t a)).2 with
 | true =>
  rw [hb] at e1
  simp only [if_true]
  exact ⟨s', e1, (e2 hb).1, fun _ => (e2 hb).2⟩
 | false =>
  rw [hb] at e1
  simp only [Bool.false_eq_true, if_false]
  exact ⟨s', e1, e3 hb, fun h => by cases h⟩
end
end Go.AI.Tryz
namespace Go.AI
theorem qtO (s : ASt) (zs cs new : List AVal) (o : Nat) (p : HObj) (ha : cs.all qaK = true) (h : over zs o cs = some new) : stH (qaf (qaf s (.cells zs)) p) (.ptr s.next o) cs = some (qaf (qaf s (.cells new)) p) := by
 have b : Nat.beq (s.next + 1) s.next = false := Tryz.beq_false (by omega)
 unfold stH qbu qaf
 simp only [qam, qaF, b, qaz rfl, cond_true, cond_false, ha, h, Option.bind_some, Option.map_some]
end Go.AI
namespace Go.AI.Tryz
mutual
theorem qdf : ∀ (t : Tm) (x : Sc), (qbf t x).length = t.size
 | .mk k n m i ks, x => by
  simp only [qbf, List.length_cons, qhI ks, Tm.size]; omega
theorem qhI : ∀ (ks : List Tm) (sc : Nat → Sc) (j : Nat), (qbC sc j ks).length = Tm.sizeL ks
 | [], _, _ => rfl
 | u :: r, sc, j => by simp only [qbC, List.length_append, qdf u, qhI r, Tm.sizeL]
end
theorem qoG {x : Sc} {t : Tm} (h : (szF x t).2 = true) : ¬ t.k = 17 := by
 have hs := qdq h
 intro hk
 cases hs <;> first
  | (simp only [Tm.k_mk] at hk; omega)
  | (rw [qd8] at h; cases h)
theorem qsb {x : Sc} {t : Tm} (h : Nd x t) : Ev fun n => qvH (qbf t x) n := by
 refine Ev.mono (Ev.all (P := fun (p : Sc × Tm) n => ∀ (j : Nat) u, p.2.ks[j]? = some u → ∀ E s, cl (qae CP n E) 132 [(vw p.1 p.2).v, i64 (.ofNat j)] s = some ((vw (p.1.kid p.2 j) u).v, s)) (qbf t x) fun p hp => ?_) fun n h p hp => h p hp
 obtain ⟨hn, _⟩ := qeP _ t x (Nat.le_refl _) h p hp
 have hall := Ev.all (P := fun (j : Nat) n => ∀ u, p.2.ks[j]? = some u → ∀ E s, cl (qae CP n E) 132 [(vw p.1 p.2).v, i64 (.ofNat j)] s = some ((vw (p.1.kid p.2 j) u).v, s)) (List.range p.2.ks.length) fun j hj => by
  have hjl : j < p.2.ks.length := List.mem_range.1 hj
  have hu : p.2.ks[j]? = some p.2.ks[j] := List.getElem?_eq_getElem hjl
  have := qoo p.1 p.2 p.2.ks[j] j hu hn.b (fun hk _ => by
   rcases hn.w with h | ⟨b, h⟩
   ·exact absurd hk (qoG h)
   ·rcases qeO h with h | ⟨i, e, h, _⟩ | ⟨u, w, h, h1, _⟩
    ·exact absurd hk (qoG (x := p.1) (by rw [h]))
    ·rw [h] at hk; simp only [Tm.k_mk] at hk; omega
    ·exact ⟨u, by rw [h]; rfl, by rw [h1]⟩)
  refine this.mono fun n h u hu' E s => ?_
  rw [hu, Option.some.injEq] at hu'
  subst hu'
  exact h E s
 refine hall.mono fun n h j u hu E s => h j (List.mem_range.2 (List.getElem?_eq_some_iff.1 hu).1) u hu E s
theorem qqe {x : Sc} {t : Tm} (h : Nd x t) (hs : t.size ≤ 900000) : Ev fun n => RuA (qbf t x) n := by
 refine Ev.mono (Ev.all (P := fun (p : Sc × Tm) n => ∀ i, i < 22 → ∀ E s, cl (qae CP n E) (72 + i) [(vw p.1 p.2).v] s = some (qe8 (qbG i p.1 p.2), s)) (qbf t x) fun p hp => ?_) fun n h p hp => h p hp
 obtain ⟨hn, hsz⟩ := qeP _ t x (Nat.le_refl _) h p hp
 have hall := Ev.all (P := fun (i : Nat) n => ∀ E s, cl (qae CP n E) (72 + i) [(vw p.1 p.2).v] s = some (qe8 (qbG i p.1 p.2), s)) (List.range 22) fun i hi => qtM hn (by omega) i (List.mem_range.1 hi)
 exact hall.mono fun n h i hi => h i (List.mem_range.2 hi)
section
variable {κ σ : Type} {N0 l4 l7 : κ → Nat} {yv someV : κ → AVal} {U : κ → σ → qaJ → qaJ → Nat × List (Nat × Nat × Nat) → Prop} {st : σ → Of → σ × Bool} {sm : Int → Bool} {OS : Tm → Prop} {live : Nat → σ → Prop}
theorem qgL {x : Sc} {t : Tm} (hnd : Nd x t) (hsz : t.size ≤ 900000) (hmono : ∀ m y, live (m + 1) y → live m y) (ha : ∀ q, qaK (yv q) = true) (hw : ∀ q, qbj (yv q) = true) (he : ∀ q, qaA (yv q) = yv q) (hce : ∀ q, AVal.cells none (yv q) = some [yv q])
  (hU : ∀ q y E H tk, U q y E H tk → qcg E H (l7 q) = some [someV q] ∧ l7 q < N0 q) (hU4 : ∀ q y E H tk, U q y E H tk → qcg E H (l4 q) = some (vw x t).c ∧ l4 q < N0 q)
  (hOS : ∀ p ∈ qbf t x, ∀ i, i < 22 → ∀ u, qbG i p.1 p.2 = some u → OS u)
  (hy : Ev fun n => YC N0 yv U st OS live n) (hs : Ev fun n => SmC N0 someV U sm n) :
  Ev fun n => ∀ q y E s, N0 q ≤ s.next → U q y E s.heap (qkd s) → live (22 * t.size) y → ∃ s' pre' H', cl (qae CP n E) 94 [yv q, .ptr (l4 q) 0, .ptr (l7 q) 0] s = some (.tuple [], s') ∧ s'.heap = pre' ++ H' ∧ (∀ v ∈ pre', N0 q ≤ v.1) ∧ s'.next = s.next + 3 ∧ U q (qba st y (qeu sm 0 (qbf t x))).1 E H' (qkd s') := by
 have hwalk := qqS (κ := κ × Nat) (fun _ => rfl) (fun _ => rfl) (qvl (NS := qbf t x) hmono hU hOS hy hs (qqe hnd hsz)) (qsb hnd) t.size (by omega)
 refine Ev.succ ((hwalk.and qoE).mono fun n ⟨h, h50⟩ q y E s hN hu hlv => ?_)
 let M := s.next
 let s16 := qaf (qaf (qaf s (.cells [yv q])) (.cells [i64 0])) (.cells [ruV])
 have hR : R96 N0 yv U (q, M) (y, 0) E s16 := ⟨s.heap, rfl, rfl, hN, hu⟩
 obtain ⟨s', e1, ⟨H', r1, r2, r3, r4⟩, _⟩ := h (q, M) t x (Nat.le_refl _) (fun p hp => hp) (y, 0) E s16 0 hR (by rw [Nat.zero_add]; exact hlv)
 have hf := qqT st sm (qbf t x) y 0
 rw [ql6 sm (qbf t x) 0 (by omega) (by rw [qdf]; omega)] at hf
 rw [hf.1] at r4
 refine ⟨s', qjY yv q M (qba (f96 st sm) (y, 0) (qbf t x)).1.2, H', ?_, r1, ?_, r2, r4⟩
 ·rw [qbL]
  refine qe4 (cf := cf94) (np := 3) (args' := [yv q, .ptr (l4 q) 0, .ptr (l7 q) 0]) (v := .tuple []) (by kernel_rfl) (by kernel_rfl) rfl (by simp only [List.all_cons, hw]; rfl) (by simp only [List.map_cons, he]; rfl) ((s94_eq _ _ _ _ _ _).trans ?_) rfl rfl
  have haw : [yv q].all qaK = true := by simp only [List.all_cons, ha, List.all_nil, Bool.and_self]
  have hst1 : stH (qaf (qaf (qaf s (.cells [yv q])) (.cells [i64 0])) (.cells [.sl 0 [] .full])) (.ptr (qaf s (.cells [yv q])).next 0) [i64 0] = some (qaf (qaf (qaf s (.cells [yv q])) (.cells [i64 0])) (.cells [.sl 0 [] .full])) := qtO _ _ _ _ _ _ rfl rfl
  have hst2 : stH (qaf (qaf (qaf s (.cells [yv q])) (.cells [i64 0])) (.cells [.sl 0 [] .full])) (.ptr (qaf (qaf s (.cells [yv q])) (.cells [i64 0])).next 0) [ruV] = some s16 := qg8 _ _ _ _ _ rfl rfl
  have hcr : AVal.cells none ruV = some [ruV] := rfl
  obtain ⟨h4, h4l⟩ := hU4 q y E s.heap _ hu
  have hc4 : qaj (qae CP n E).E s16 (l4 q) = some (vw x t).c := by
   rw [qaQ, qet (s := s16) (pre := qjY yv q M 0) (H := s.heap) rfl]
   ·exact h4
   ·intro v hv
    simp only [qjY, List.mem_cons, List.not_mem_nil, or_false, M] at hv
    rcases hv with rfl | rfl | rfl <;> simp only <;> omega
  have e1' : cl (qae CP n E) 95 [(vw x t).v, .func 96 [] [.ptr (qaf (qaf s (.cells [yv q])) (.cells [i64 0])).next 0, .ptr (l7 q) 0, .ptr s.next 0, .ptr (qaf s (.cells [yv q])).next 0]] s16 = some (_, s') := e1
  unfold s94
  simp only [hce, haw, h50, qbh, hst1, hcr, hst2, ldP hc4, e1', qbR, Option.bind_some, qab, qaS, qbg, cnd]
 ·intro v hv
  simp only [qjY, List.mem_cons, List.not_mem_nil, or_false, M] at hv
  rcases hv with rfl | rfl | rfl <;> simp only <;> omega
end
theorem qqf (y : Vw) (fv : AVal) (ha : qaK fv = true) (hw : qbj fv = true) (he : qaA fv = fv) (hce : AVal.cells none fv = some [fv]) :
  Ev fun n => ∀ E s, cl (qae CP n E) 54 [y.v, fv] s = some (.func 94 [] [.ptr s.next 0, .ptr (s.next + 1) 0], qaf (qaf s (.cells y.c)) (.cells [fv])) := by
 refine Ev.succ (Ev.of fun n E s => ?_)
 rw [qbL]
 refine qe4 (cf := cf54) (np := 2) (args' := [y.v, fv]) (v := .func 94 [] [.ptr s.next 0, .ptr (s.next + 1) 0]) (by kernel_rfl) (by kernel_rfl) rfl (by simp only [List.all_cons, qcx, hw]; rfl) (by simp only [List.map_cons, qcy, he]; rfl) ((s54_eq _ _ _ _ _).trans ?_) rfl rfl
 have haw : [fv].all qaK = true := by simp only [List.all_cons, ha, List.all_nil, Bool.and_self]
 unfold s54
 simp only [hce, haw, qay, qcI, Option.bind_some, qaS, qbg, cnd]
 rfl
theorem qjZ {ι : Type} (y : Vw) (fv : ι → AVal) (ha : ∀ i, qaK (fv i) = true) (hw : ∀ i, qbj (fv i) = true) (he : ∀ i, qaA (fv i) = fv i) (hce : ∀ i, AVal.cells none (fv i) = some [fv i]) :
  Ev fun n => ∀ i E s, cl (qae CP n E) 54 [y.v, fv i] s = some (.func 94 [] [.ptr s.next 0, .ptr (s.next + 1) 0], qaf (qaf s (.cells y.c)) (.cells [fv i])) := by
 refine Ev.succ (Ev.of fun n i E s => ?_)
 rw [qbL]
 refine qe4 (cf := cf54) (np := 2) (args' := [y.v, fv i]) (v := .func 94 [] [.ptr s.next 0, .ptr (s.next + 1) 0]) (by kernel_rfl) (by kernel_rfl) rfl (by simp only [List.all_cons, qcx, hw]; rfl) (by simp only [List.map_cons, qcy, he]; rfl) ((s54_eq _ _ _ _ _).trans ?_) rfl rfl
 have haw : [fv i].all qaK = true := by simp only [List.all_cons, ha, List.all_nil, Bool.and_self]
 unfold s54
 simp only [hce, haw, qay, qcI, Option.bind_some, qaS, qbg, cnd]
 rfl
end Go.AI.Tryz
namespace Go.AI.Tryz
theorem qk4 (n : Nat) (E : qaJ) (l : Nat) (args : List AVal) (s : ASt) : (qae CP (n + 1) E).callv (.yield l) args s = qd2 (qbW CP (qae CP n) n E) (qae CP n) n E (.yield l) args s := rfl
theorem qk5 {n nt nl : Nat} {E : qaJ} {ly p1 p2 : Nat} {fr : Tr AVal} {lo : Tr (Nat × List AVal)} {a b : CC} {pre HT HT2 : qaJ} {s s2 : ASt} {F0 : FL} {L : LL} {v1 v2 : AVal} {x : EX}
  (hrf : (qcc a && qcc b) = true) (hcs : (qhw (qek b (qek a 0)) a).cs = false) (h12 : p1 ≠ p2) (hp1 : p1 < nt) (hp2 : p2 < nt)
  (h : s.heap = pre ++ (ly, .loop 0 none fr lo [p1, p2] a b) :: HT) (hp : ∀ v ∈ pre, v.1 ≠ ly) (hF : ∀ t u, qam F0 t = some u → fr.get qai t = u) (hh : ∀ t, t < nt → fr.has t = true) (hL : ∀ i p, qam L i = some p → lo.get (0, []) i = p ∧ lo.has i = true) (ha : [v1, v2].all qbj = true)
  (hrun : qpU nt nl (qae CP n E) n a b (fun s => { s with heap := pre ++ (ly, .loop 1 none fr lo [p1, p2] a b) :: HT }) ((p1, v1) :: (p2, v2) :: F0) L s = some (qij x, s2)) (h2 : s2.heap = pre ++ (ly, .loop 1 none fr lo [p1, p2] a b) :: HT2) :
  clv (qae CP (n + 1) E) (.yield ly) [v1, v2] s = some (bl (qhb x), { s2 with heap := pre ++ (ly, .loop (qmm x) (qdv x) fr lo [p1, p2] a b) :: HT2 }) := by
 rw [qgr, qk4]
 have hbe : Nat.beq ly ly = true := qaz rfl
 have g1 : ∀ (o : HObj) (H : qaJ), qam (pre ++ (ly, o) :: H) ly = some o := fun o H => by
  rw [qde hp]
  simp only [qam, hbe, cond_true]
 have g2 : ∀ (o o' : HObj) (H : qaJ), qaF (pre ++ (ly, o) :: H) ly o' = some (pre ++ (ly, o') :: H) := fun o o' H => by
  rw [qc2 hp]
  simp only [qaF, hbe, cond_true, Option.map_some]
 let f1 := (fr.set p1 v1).set p2 v2
 have hf1 : qc9 fr [p1, p2] [v1, v2] = some f1 := rfl
 have ag : AG nt ((p1, v1) :: (p2, v2) :: F0) L [] ⟨f1, lo, [], some ly, s⟩ := by
  refine ⟨fun t u hu => ?_, fun i p hi => hL i p hi, fun d l hd => (by cases hd), fun t ht => ?_⟩
  ·show ((fr.set p1 v1).set p2 v2).get qai t = u
   rw [Tr.get_set _ _ _ _ _ (by rw [Tr.has_set]; exact hh p2 hp2), Tr.get_set _ _ _ _ _ (hh p1 hp1)]
   rw [qak] at hu
   split at hu
   ·rename_i e
    subst e
    rw [if_neg (fun e => h12 e.symm), if_pos rfl]
    simpa using hu
   ·rename_i e
    rw [qak] at hu
    split at hu
    ·rename_i e2
     rw [if_pos e2]
     simpa using hu
    ·rename_i e2
     rw [if_neg e2, if_neg e]
     exact hF t u hu
  ·show ((fr.set p1 v1).set p2 v2).has t = true
   rw [Tr.has_set, Tr.has_set]
   exact hh t ht
 obtain ⟨ca, cb, k1, k2, k3, k4⟩ := qtb hrf hcs ag hrun
 have k2' : ca.s = s := k2
 simp only [qd2, h, g1, ha, cond_true, hf1, Option.bind_some, k1, k2', g2]
 have k3' : qbb (qae CP n E) n b { ca with s := { s with heap := pre ++ (ly, .loop 1 none fr lo [p1, p2] a b) :: HT } } = some (x, cb) := k3
 simp only [k3', Option.bind_some, endRound, k4, h2, g1, g2, Option.map_some]
theorem qqg (l : Tr (Nat × List AVal)) (i : Nat) : (l.map fun _ => ((0, []) : Nat × List AVal)).get (0, []) i = (0, []) := Tr.get_map (fun _ => ((0, []) : Nat × List AVal)) (0, []) l i
theorem qsc (f : Tr AVal) (i : Nat) : (f.map far).get qai i = far (f.get qai i) := Tr.get_map far qai f i
theorem qsd {n n' nt : Nat} {E : qaJ} {l4 l7 : Nat} {ps : List Nat} {a b : CC} {F : FL} {L : LL} {s : ASt} {kn kx kr : ASt → Res} {r : AVal} (hn : 1 ≤ n)
  (hrun : ∀ (fr : Tr AVal) (lo : Tr (Nat × List AVal)), (∀ t u, qam F t = some u → fr.get qai t = far u) → (∀ t, t < nt → fr.has t = true) → (∀ i, lo.get (0, []) i = (0, [])) → (∀ i p, qam L i = some p → lo.has i = true) →
   ∃ x s' pre' HT s2 r', cl (qae CP n E) 94 [.yield s.next, .ptr l4 0, .ptr l7 0] (qaf s (.loop 0 none fr lo ps a b)) = some (.tuple [], s') ∧ s'.heap = pre' ++ (s.next, .loop (qmm x) (qdv x) fr lo ps a b) :: HT ∧ (∀ v ∈ pre', v.1 ≠ s.next) ∧ qaA r' = r ∧ (match x with
    | .normal => kn { s' with heap := pre' ++ (s.next, .gone) :: HT } = some (r', s2)
    | .exit i => i = exB b ∧ kx { s' with heap := pre' ++ (s.next, .gone) :: HT } = some (r', s2)
    | .ret => kr { s' with heap := pre' ++ (s.next, .gone) :: HT } = some (r', s2))) :
  qky (qae CP n E) n' nt (.func 94 [] [.ptr l4 0, .ptr l7 0]) ps a b F L s kn kx kr r := by
 intro c f hF hL hh hv hs hrd
 obtain ⟨x, s', pre', HT, s2, r', h1, h2, h3, her, h4⟩ := hrun (c.f.map far) (c.l.map fun _ => (0, [])) (fun t u hu => by rw [qsc, hF t u hu]) (fun t ht => by rw [Tr.has_map]; exact hh t ht) (qqg c.l) (fun i p hi => by rw [Tr.has_map]; exact hL i p hi)
 refine ⟨x, { s' with heap := pre' ++ (s.next, .gone) :: HT }, s2, r', ?_, her, h4⟩
 have hbe : Nat.beq s.next s.next = true := qaz rfl
 have g1 : qam (pre' ++ (s.next, HObj.loop (qmm x) (qdv x) (c.f.map far) (c.l.map fun _ => (0, [])) ps a b) :: HT) s.next = some (.loop (qmm x) (qdv x) (c.f.map far) (c.l.map fun _ => (0, [])) ps a b) := by
  rw [qde h3]
  simp only [qam, hbe, cond_true]
 have g2 : qaF (pre' ++ (s.next, HObj.loop (qmm x) (qdv x) (c.f.map far) (c.l.map fun _ => (0, [])) ps a b) :: HT) s.next .gone = some (pre' ++ (s.next, .gone) :: HT) := by
  rw [qc2 h3]
  simp only [qaF, hbe, cond_true, Option.map_some]
 have hil : qiQ c = true := by unfold qiQ; rw [hrd]
 have hcv : (qae CP n E).callv (.func 94 [] [.ptr l4 0, .ptr l7 0]) [.yield s.next] (qaf s (.loop 0 none (c.f.map far) (c.l.map fun _ => (0, [])) ps a b)) = some (.tuple [], s') := by
  have := qg7 CP hn E 94 [] [.ptr l4 0, .ptr l7 0] [.yield s.next] (qaf s (.loop 0 none (c.f.map far) (c.l.map fun _ => (0, [])) ps a b))
  rw [qgr] at this
  rw [this]
  exact h1
 have hst : Nat.beq (qmm x) 1 = false := by cases x <;> rfl
 unfold qbb
 rw [hil, hv, hs]
 simp only [qsF, Bool.and_self, cond_true, hcv, Option.bind_some, h2, g1, hst, cond_false, g2]
 cases x <;> rfl
theorem ql7 (d : Nat) : ∀ (F : FL), (∀ p ∈ F, p.1 < 2 ^ d - 1) → ∃ fr : Tr AVal, (∀ t u, qam F t = some u → fr.get qai t = u) ∧ ∀ t, t < 2 ^ d - 1 → fr.has t = true
 | [], _ => ⟨Tr.mk qai d, fun t u h => (by cases h), fun t ht => Tr.has_mk _ _ _ (by omega)⟩
 | (k, v) :: F, h => by
  obtain ⟨fr, h1, h2⟩ := ql7 d F fun p hp => h p (List.mem_cons_of_mem _ hp)
  refine ⟨fr.set k v, fun t u hu => ?_, fun t ht => by rw [Tr.has_set]; exact h2 t ht⟩
  rw [Tr.get_set _ _ _ _ _ (h2 k (h (k, v) (List.mem_cons_self ..)))]
  rw [qak] at hu
  split at hu
  ·rename_i e
   rw [if_pos e]
   simpa using hu
  ·rename_i e
   rw [if_neg e]
   exact h1 t u hu
theorem qoH {e : Env} {n nt : Nat} {v : AVal} {ps : List Nat} {a b : CC} {F : FL} {L : LL} {s : ASt} {kn kx kr : ASt → Res} {r : AVal} (d dl : Nat) (hF : ∀ p ∈ F, p.1 < 2 ^ d - 1) (hn : nt ≤ 2 ^ d - 1) (hL : ∀ p ∈ L, p.1 < 2 ^ dl - 1) (h : qky e n nt v ps a b F L s kn kx kr r) :
  rfK e n nt v ps a b F L s kn kx kr = some (r, s) := by
 have hex : ∃ r, qky e n nt v ps a b F L s kn kx kr r := ⟨r, h⟩
 unfold rfK
 rw [dif_pos hex]
 have h2 := hex.choose_spec
 obtain ⟨fr, f1, f2⟩ := ql7 d F hF
 have hlo : ∀ i p, qam L i = some p → (Tr.mk ((0, []) : Nat × List AVal) dl).has i = true := fun i p hi => Tr.has_mk _ _ _ (by
  have := hL (i, p) (by
   have : ∀ (L : LL), qam L i = some p → (i, p) ∈ L := by
    intro L
    induction L with
    | nil => intro h; cases h
    | cons q L ih =>
     intro h
     obtain ⟨k, w⟩ := q
     rw [qak] at h
     split at h
     ·rename_i e
      subst e
      simp only [Option.some.injEq] at h
      subst h
      exact List.mem_cons_self ..
     ·exact List.mem_cons_of_mem _ (ih h)
   exact this L hi)
  simp only at this
  omega)
 obtain ⟨x, s', s2, r', k1, k2, k3⟩ := h ⟨fr, Tr.mk (0, []) dl, [], none, s⟩ (.c v) f1 hlo (fun t ht => f2 t (by omega)) rfl rfl rfl
 obtain ⟨y, t', t2, q', m1, m2, m3⟩ := h2 ⟨fr, Tr.mk (0, []) dl, [], none, s⟩ (.c v) f1 hlo (fun t ht => f2 t (by omega)) rfl rfl rfl
 rw [k1] at m1
 simp only [Option.some.injEq, Prod.mk.injEq] at m1
 obtain ⟨rfl, hs⟩ := m1
 injection hs with _ _ _ _ hs
 subst hs
 have hq : r' = q' := by
  cases x with
  | normal => simp only at k3 m3; rw [k3] at m3; simp only [Option.some.injEq, Prod.mk.injEq] at m3; exact m3.1
  | exit i => simp only at k3 m3; have := k3.2; rw [m3.2] at this; simp only [Option.some.injEq, Prod.mk.injEq] at this; exact this.1.symm
  | ret => simp only at k3 m3; rw [k3] at m3; simp only [Option.some.injEq, Prod.mk.injEq] at m3; exact m3.1
 rw [← k2, ← m2, hq]
end Go.AI.Tryz
namespace Go.AI
theorem qd1 {s : ASt} {pre H : qaJ} {l o : Nat} {zs cs new : List AVal} (h : s.heap = pre ++ (l, .cells zs) :: H) (hp : ∀ v ∈ pre, v.1 ≠ l) (ha : cs.all qaK = true) (ho : over zs o cs = some new) : stH s (.ptr l o) cs = some { s with heap := pre ++ (l, .cells new) :: H } := by
 unfold stH qbu
 have hbe : Nat.beq l l = true := qaz rfl
 simp only [h, qde hp, qc2 hp, qam, qaF, hbe, cond_true, ha, ho, Option.bind_some, Option.map_some]
theorem qbn {E : qaJ} {s : ASt} {pre H : qaJ} {l : Nat} {cs : List AVal} (h : s.heap = pre ++ (l, .cells cs) :: H) (hp : ∀ v ∈ pre, v.1 ≠ l) : qaj E s l = some cs := by
 unfold qaj
 have hbe : Nat.beq l l = true := qaz rfl
 simp only [h, qde hp, qam, hbe, cond_true]
end Go.AI
namespace Go.AI.Tryz
theorem qoI (a : Ar) (t : Tm) (h1 : a.ids.length ≤ 100000) : PC CP 65 [a.v, t.v] (vw (qaD a) t).v := by
 refine PC.of2 (cf := cf65) (np := 2) (args' := [a.v, t.v]) (by kernel_rfl) (by kernel_rfl) rfl (by simp only [List.all_cons, qan]; rfl) (by simp only [List.map_cons, qao]; rfl) (fun _ => rfl) ((Ev.ge (a.ids.length + 1)).mono fun n hn E s => ?_)
 let sz : List Int := a.ids.map fun t => t.res.n
 let f : Nat → List PVal := fun j => qaU qeT (sz.take j)
 have hszl : sz.length = a.ids.length := by simp only [sz, List.length_map]
 let fin : AVal := .agg [u8 t.k, i64 t.n, i64 t.m, i64 t.i, kv t.ks, qfB f s.ntok a.ids.length, i64 (.ofNat a.ids.length)]
 suffices ∃ s', s65 (qae CP n E) n a.v t.v s = some (fin, s') by
  obtain ⟨s', e⟩ := this
  refine ⟨fin, s', (s65_eq _ _ _ _ _).trans e, ?_⟩
  have he1 : qbS (qfB f s.ntok a.ids.length) = .p (.sl a.ids.length (f a.ids.length)) := qdX f _ _ rfl
  have he2 : (vw (qaD a) t).sz = sz := by
   simp only [vw, qaD, sz, List.map_map]
   rfl
  have he3 : f a.ids.length = qaU qeT sz := by
   show qaU qeT (sz.take a.ids.length) = _
   rw [← hszl, List.take_length]
  show AVal.agg [_, _, _, _, _, qbS (qfB f s.ntok a.ids.length), _] = AVal.agg [_, _, _, _, _, iv (vw (qaD a) t).sz, _]
  rw [he1, he2, he3, iv, hszl]
  rfl
 have hav : AVal.cells (some 4) a.v = some [.p (.sl a.ids.length (qaU Ty.cells a.ids)), bl a.root.cell, i64 a.root.n, bl a.jumps] := rfl
 have hbd : bd [u8 0, i64 0, i64 0, i64 0, .sl 0 [] .full, .sl 0 [] .full, i64 0] [(0, some 5, .c t.v), (6, none, .c (i64 (.ofNat a.ids.length)))] = some (.agg [u8 t.k, i64 t.n, i64 t.m, i64 t.i, kv t.ks, .sl 0 [] .full, i64 (.ofNat a.ids.length)]) := by rw [Tm.v_eq]; rfl
 unfold s65
 simp only [hav, hbd, qcd, qn4, qn5, qal, qaW, Option.bind_some, qcV]
 unfold s65_0
 generalize hF : (fun (h21 : AVal → Nat → List AVal → List AVal → List AVal → List AVal → List AVal → ASt → Res) (x13 : AVal) (g14 : Nat) (c15 c16 c17 c18 c19 : List AVal) (s20 : ASt) => _) = F
 have key : ∀ k (j g : Nat) (c : List AVal), j ≤ a.ids.length → a.ids.length - j < k → ∃ s', lp (fun _ _ _ _ _ _ _ _ => none) F k (i64 (.ofNat j)) g [.p (.sl a.ids.length (qaU Ty.cells a.ids)), bl a.root.cell, i64 a.root.n, bl a.jumps] t.c [u8 0, i64 0, i64 0, i64 0, .sl 0 [] .full, .sl 0 [] .full, i64 0]
   [u8 t.k, i64 t.n, i64 t.m, i64 t.i, kv t.ks, qfB f s.ntok j, i64 (.ofNat a.ids.length)] c (qkc s 1 j) = some (fin, s') := by
  intro k
  induction k with
  | zero => intro j g c _ h; omega
  | succ k ih =>
   intro j g c hj hk
   rcases Nat.lt_or_ge j a.ids.length with h | h
   ·have hkj : a.ids[j]? = some a.ids[j] := List.getElem?_eq_getElem h
    have hld : ∀ s, ldH (qae CP n E) s (.elem (qaU Ty.cells a.ids) (j * 3)) (some 3) = some a.ids[j].v := fun s => qd4 (c := Ty.cells) (sz := 3) (fun _ => rfl) _ s hkj
    have hsj : j < sz.length := by rw [hszl]; exact h
    have hszj : sz[j] = a.ids[j].res.n := by simp only [sz, List.getElem_map]
    have hap := qlS (qae CP n E) (sz := 1) (b := 8) (f := f) (y := .sl 1 (qeT a.ids[j].res.n) .full) s j rfl rfl (by omega) (by
     have := qc6 (c := qeT) hsj
     rw [hszj] at this
     exact this)
    have hms : ms 1 [.int .i64 0] [(0, none, .c (i64 a.ids[j].res.n))] = some (.sl 1 (qeT a.ids[j].res.n) .full) := rfl
    have hcv : AVal.cells none (qfB f s.ntok (j + 1)) = some [qfB f s.ntok (j + 1)] := rfl
    have hl5 : ∀ a b c d e f g : AVal, ldL [a, b, c, d, e, f, g] 5 none = some f := fun _ _ _ _ _ _ _ => rfl
    have ho5 : ∀ a b c d e f g h : AVal, over [a, b, c, d, e, f, g] 5 [h] = some [a, b, c, d, e, h, g] := fun _ _ _ _ _ _ _ _ => rfl
    obtain ⟨s', e⟩ := ih (j + 1) (g + 1) [.p (.sl a.ids[j].ps.length (qaU Bs.cells a.ids[j].ps)), bl a.ids[j].res.cell, i64 a.ids[j].res.n] (by omega) (by omega)
    refine ⟨s', ?_⟩
    rw [qa9]
    generalize lp _ F k = L at e ⊢
    subst hF
    simp only [of_lt.2 h, qcY h, hld, Ty.v_cells3, qkH, Nat.beq_refl, hl5, qrx, hms, hap, hcv, ho5, qa7 (show j < 9223372036854775807 by omega), qag, qaE, qaH, decide_true, qaa, cond_true, Option.map_some, Option.bind_some, qab, cnd]
    exact e
   ·have : j = a.ids.length := by omega
    subst this
    have h3 : ¬ (Int.ofNat a.ids.length < Int.ofNat a.ids.length) := fun h => Nat.lt_irrefl _ (of_lt.1 h)
    refine ⟨qkc s 1 a.ids.length, ?_⟩
    rw [qa9]
    generalize lp _ F k = L
    subst hF
    simp only [h3, qte, qn4, qn5, qag, qaE, qaH, decide_false, qaa, cond_false, Option.map_some, Option.bind_some, cnd]
    rfl
 obtain ⟨s', e⟩ := key n 0 0 [] (Nat.zero_le _) (by omega)
 exact ⟨s', e⟩
theorem qgM (a : Ar) (t : Tm) (oa : a.Ok) (ok : t.Ok) (h1 : a.ids.length ≤ 100000) (hs : t.size ≤ 100000) : PC CP 40 [a.v, t.v] (.tuple [(vw (qaD a) t).v, i64 (qbJ a t)]) := by
 refine PC.of2 (cf := cf40) (np := 2) (args' := [a.v, t.v]) (by kernel_rfl) (by kernel_rfl) rfl (by simp only [List.all_cons, qan]; rfl) (by simp only [List.map_cons, qao]; rfl) (fun _ => rfl) (((qoI a t h1).and (qoj a t oa ok h1 hs)).mono fun n ⟨h, h'⟩ E s => ⟨.tuple [(vw (qaD a) t).v, i64 (qbJ a t)], s, (s40_eq _ _ _ _ _).trans ?_, rfl⟩)
 have hav : AVal.cells (some 4) a.v = some [.p (.sl a.ids.length (qaU Ty.cells a.ids)), bl a.root.cell, i64 a.root.n, bl a.jumps] := rfl
 have hal : ldL [.p (.sl a.ids.length (qaU Ty.cells a.ids)), bl a.root.cell, i64 a.root.n, bl a.jumps] 0 (some 4) = some a.v := rfl
 unfold s40
 simp only [hav, hal, h, h', qal, qaW, qay, qbR, qfD, Option.bind_some, qab]
theorem every_u : UC 42 (fun k : Int => [u8 k]) (fun _ _ _ => True) (fun _ => bl true) :=
 UC.of (cf := cf42) (np := 1) (by kernel_rfl) (by kernel_rfl) (fun _ => rfl) (fun _ => rfl) (fun _ => rfl) (fun _ => Stab.pure _) (fun _ _ => rfl) (Ev.of fun n p E s _ => ⟨bl true, s, (s42_eq _ _ _ _).trans rfl, rfl⟩)
theorem qiB {a : Ar} {t : Tm} (h : qbJ a t = 0) (ok : t.Ok) (h1 : a.ids.length ≤ 100000) (hs : t.size ≤ 100000) : Nd (qaD a) t := by
 unfold qbJ at h
 split at h
 ·rename_i h0; exact absurd h h0
 ·rename_i h0
  have h0 : qcZ a = 0 := by simpa using h0
  split at h
  ·omega
  ·split at h
   ·rename_i hA
    refine ⟨.inr ⟨a.root, hA⟩, ⟨by simp only [qaD, List.length_map]; omega, by simp only [qaD]; omega, by simp only [qaD]; omega⟩, ok, fun e he => ?_⟩
    simp only [qaD, List.mem_map] at he
    obtain ⟨ty, hty, rfl⟩ := he
    have : qd5 ty = true := by
     unfold qcZ at h0
     split at h0
     ·omega
     ·split at h0
      ·omega
      ·rename_i h2
       simp only [Bool.not_eq_true, Bool.or_eq_false_iff] at h2
       have := List.any_eq_false.1 h2.2 ty hty
       simpa using this
    simp only [qd5, Bool.and_eq_true, qb6, decide_eq_true_eq] at this
    exact this.1
   ·omega
end Go.AI.Tryz
namespace Go.AI.Tryz
abbrev Rw := Int × Int
def rwC (p : Rw) : List PVal := [.int .u8 p.1, .int .i64 p.2]
def qbx (tok : Nat) : List Rw → AVal
 | [] => .sl 0 [] .full
 | a :: r => .sl (r.length + 1) (qaU rwC (a :: r)) (.own tok)
abbrev qfd (l : List Rw) : AVal := .p (.sl l.length (qaU rwC l))
def qj0 (tk : Nat × List (Nat × Nat × Nat)) (tok : Nat) (y : List Rw) : Prop := y ≠ [] → qam tk.2 tok = some (y.length, 2)
theorem qoJ (e : Env) {y : List Rw} {tok : Nat} {s : ASt} (h : qj0 (qkd s) tok y) (p : Rw) (hb : y.length ≤ 100000000) :
  ∃ tok' ts nt', ap e 2 16 (qbx tok y) (.sl 1 (rwC p) .full) s = some (qbx tok' (y ++ [p]), { s with ntok := nt', toks := ts }) ∧ qj0 (nt', ts) tok' (y ++ [p]) := by
 cases y with
 | nil =>
  refine ⟨s.ntok, _, _, qio e (sz := 2) (b := 16) (new := rwC p) s rfl rfl (by omega), fun _ => ?_⟩
  show qam ((s.ntok, 1, 2) :: s.toks) s.ntok = _
  rw [qak, if_pos rfl]
  rfl
 | cons a r =>
  have ht := h (by simp)
  obtain ⟨ts, e1, e2⟩ := qqQ e (sz := 2) (b := 16) (n := r.length + 1) (t := tok) (cs := qaU rwC (a :: r)) (new := rwC p) (y := .sl 1 (rwC p) .full) ht rfl rfl (by simp only [List.length_cons] at hb; omega)
  refine ⟨tok, ts, s.ntok, ?_, fun _ => ?_⟩
  ·have hl : qbx tok (a :: r ++ [p]) = .sl (r.length + 1 + 1) (qaU rwC (a :: r) ++ rwC p) (.own tok) := by
    show AVal.sl ((r ++ [p]).length + 1) (qaU rwC (a :: (r ++ [p]))) (.own tok) = _
    have := qgy rwC (a :: r) p
    rw [List.cons_append] at this
    rw [this, List.length_append]
    rfl
   rw [hl]
   exact e1
  ·show qam ts tok = _
   rw [e2, if_pos rfl]
   simp only [List.length_append, List.length_cons, List.length_nil]
theorem qqU (tok : Nat) (y : List Rw) : qbS (qbx tok y) = qfd y := by cases y <;> rfl
theorem qeQ (tok : Nat) (y : List Rw) : AVal.cells none (qbx tok y) = some [qbx tok y] := by cases y <;> rfl
theorem qfV (tok : Nat) (y : List Rw) : [qbx tok y].all qaK = true := by cases y <;> rfl
theorem qqV (tok : Nat) (y : List Rw) : ln false (qbx tok y) = some (i64 (.ofNat y.length)) := by cases y <;> rfl
theorem qoK (l : List Of) : ∀ (y : List Rw), qba (fun (y : List Rw) (o : Of) => (y ++ [(o.1, o.2.1)], true)) y l = (y ++ l.map fun o => (o.1, o.2.1), true) := by
 induction l with
 | nil => intro y; simp only [qba, List.map_nil, List.append_nil]
 | cons o r ih => intro y; simp only [qba, if_true, ih, List.map_cons, List.append_assoc, List.cons_append, List.nil_append]
def qdg : Int → Bool := fun _ => true
def qiC (a : Ar) (t : Tm) : List Of := qeu qdg 0 (qbf t (qaD a))
def qgN (a : Ar) (t : Tm) : List Rw × Int := if qbJ a t = 0 then ((qiC a t).map fun o => (o.1, o.2.1), 0) else ([], qbJ a t)
abbrev K27 := Tr AVal × Tr (Nat × List AVal) × Nat × qaJ
def U27 (x : Vw) (q : K27) (y : List Rw) (E H : qaJ) (tk : Nat × List (Nat × Nat × Nat)) : Prop :=
 (q.1.get qai 4 = .ptr q.2.2.1 0 ∧ (∀ t, t < 31 → q.1.has t = true) ∧ q.2.1.get (0, []) 3 = (0, []) ∧ q.2.1.has 3 = true) ∧
 ∃ tok, H = (q.2.2.1 + 3, .loop 0 none q.1 q.2.1 [19, 20] ra27 rb27) :: (q.2.2.1 + 2, .cells [.p (.func 42 [] [])]) :: (q.2.2.1 + 1, .cells x.c) :: (q.2.2.1, .cells [qbx tok y]) :: q.2.2.2 ∧ qj0 tk tok y
theorem qse (x : Vw) : Ev fun n => YC (fun q : K27 => q.2.2.1 + 4) (fun q => .yield (q.2.2.1 + 3)) (U27 x) (fun y o => (y ++ [(o.1, o.2.1)], true)) (fun _ => True) (fun m y => y.length + m ≤ 100000000) n := by
 refine Ev.succ ((Ev.ge 1).mono fun n hn q y E H pre s o m _ hh hpre hN hU hlv => ?_)
 obtain ⟨fr, lo, N, H0⟩ := q
 obtain ⟨⟨f4, fh, l3, l3h⟩, tok, hH, hok⟩ := hU
 simp only at f4 fh l3 l3h hH hpre hN
 subst hH
 obtain ⟨k, at_, t⟩ := o
 have hpl : ∀ v ∈ pre, v.1 ≠ N + 3 := fun v hv => by have := hpre v hv; omega
 let LP : EX → HObj := fun _ => .loop 1 none fr lo [19, 20] ra27 rb27
 let u : ASt → ASt := fun s => { s with heap := pre ++ (N + 3, .loop 1 none fr lo [19, 20] ra27 rb27) :: (N + 2, .cells [.p (.func 42 [] [])]) :: (N + 1, .cells x.c) :: (N, .cells [qbx tok y]) :: H0 }
 let pre2 : qaJ := pre ++ [(N + 3, .loop 1 none fr lo [19, 20] ra27 rb27), (N + 2, .cells [.p (.func 42 [] [])]), (N + 1, .cells x.c)]
 have hp2 : ∀ v ∈ pre2, v.1 ≠ N := by
  intro v hv
  simp only [pre2, List.mem_append, List.mem_cons, List.not_mem_nil, or_false] at hv
  rcases hv with hv | rfl | rfl | rfl
  ·have := hpre v hv; omega
  ·simp only; omega
  ·simp only; omega
  ·simp only; omega
 have hu : (u s).heap = pre2 ++ (N, .cells [qbx tok y]) :: H0 := by simp only [u, pre2, List.append_assoc, List.cons_append, List.nil_append]
 obtain ⟨tok', ts, nt', e1, e2⟩ := qoJ (qae CP n E) (s := u s) (y := y) (tok := tok) hok (k, at_) (by omega)
 have hst := qd1 (s := { u s with ntok := nt', toks := ts }) (l := N) (o := 0) hu hp2 (qfV tok' (y ++ [(k, at_)])) (new := [qbx tok' (y ++ [(k, at_)])]) rfl
 have hld : qaj (qae CP n E).E (u s) N = some [qbx tok y] := qbn hu hp2
 have one : ∀ v : AVal, ldL [v] 0 none = some v := fun _ => rfl
 let s2 : ASt := { u s with ntok := nt', toks := ts, heap := pre2 ++ (N, .cells [qbx tok' (y ++ [(k, at_)])]) :: H0 }
 have hrun : qpU 31 7 (qae CP n E) n ra27 rb27 u ((19, rwV (k, at_, t)) :: (20, t.v) :: [(4, .ptr N 0)]) [(3, (0, []))] s = some (qij .normal, s2) := by
  refine (y27_eq (qae CP n E) n u N (rwV (k, at_, t)) t.v s).trans ?_
  have hc2 : AVal.cells (some 2) (rwV (k, at_, t)) = some [u8 k, i64 at_] := rfl
  have hms : ms 1 [.int .u8 0, .int .i64 0] [(0, some 2, .c (.agg [u8 k, i64 at_]))] = some (.sl 1 (rwC (k, at_)) .full) := rfl
  unfold y27
  simp only [hc2, qe5, ldP hld, one, qn2, hms, e1, qeQ, hst, Option.bind_some, qab]
  rfl
 have hs2 : s2.heap = pre ++ (N + 3, .loop 1 none fr lo [19, 20] ra27 rb27) :: (N + 2, .cells [.p (.func 42 [] [])]) :: (N + 1, .cells x.c) :: (N, .cells [qbx tok' (y ++ [(k, at_)])]) :: H0 := by simp only [s2, pre2, List.append_assoc, List.cons_append, List.nil_append]
 have hy := qk5 (n := n) (nt := 31) (nl := 7) (E := E) (ly := N + 3) (fr := fr) (lo := lo) (pre := pre) (F0 := [(4, .ptr N 0)]) (L := [(3, (0, []))]) (v1 := rwV (k, at_, t)) (v2 := t.v) (x := .normal) (by kernel_rfl) (by kernel_rfl) (by omega) (by omega) (by omega) hh hpl
  (fun t u hu => by
   rw [qak] at hu
   split at hu
   ·rename_i e; subst e; rw [f4]; simpa using hu
   ·cases hu) fh
  (fun i p hi => by
   rw [qak] at hi
   split at hi
   ·rename_i e; subst e
    simp only [Option.some.injEq] at hi
    subst hi
    exact ⟨l3, l3h⟩
   ·cases hi) (by simp only [List.all_cons, qan]; rfl) hrun hs2
 refine ⟨_, _, hy, rfl, rfl, ⟨⟨f4, fh, l3, l3h⟩, tok', rfl, e2⟩, fun _ => ?_⟩
 simp only [List.length_append, List.length_cons, List.length_nil]
 omega
theorem qtP (x : Vw) : Ev fun n => SmC (fun q : K27 => q.2.2.1 + 4) (fun _ => .p (.func 42 [] [])) (U27 x) qdg n :=
 (every_u.and (Ev.ge 1)).mono fun n ⟨h, hn⟩ q y E H pre s i _ _ _ _ => by
  rw [qeI CP hn]
  exact h (.ofNat (i + 1)) E s trivial
theorem qa2 {E H : qaJ} {l m : Nat} {o : HObj} (h : m ≠ l) : qcg E ((m, o) :: H) l = qcg E H l := by
 unfold qcg
 exact qa0 rfl h
theorem qcR {E H : qaJ} {l : Nat} {cs : List AVal} : qcg E ((l, .cells cs) :: H) l = some cs := qaT (s := ⟨0, (l, .cells cs) :: H, 0, []⟩) rfl
theorem qvm (x : Vw) (q : K27) (y : List Rw) (E H : qaJ) (tk : Nat × List (Nat × Nat × Nat)) (h : U27 x q y E H tk) : qcg E H (q.2.2.1 + 2) = some [.p (.func 42 [] [])] ∧ q.2.2.1 + 2 < q.2.2.1 + 4 := by
 obtain ⟨_, tok, rfl, _⟩ := h
 exact ⟨by rw [qa2 (by omega), qcR], by omega⟩
theorem qvn (x : Vw) (q : K27) (y : List Rw) (E H : qaJ) (tk : Nat × List (Nat × Nat × Nat)) (h : U27 x q y E H tk) : qcg E H (q.2.2.1 + 1) = some x.c ∧ q.2.2.1 + 1 < q.2.2.1 + 4 := by
 obtain ⟨_, tok, rfl, _⟩ := h
 exact ⟨by rw [qa2 (by omega), qa2 (by omega), qcR], by omega⟩
theorem qmT (a : Ar) (t : Tm) (oa : a.Ok) (ok : t.Ok) (h1 : a.ids.length ≤ 100000) (hs : t.size ≤ 100000) : PC CP 27 [a.v, t.v] (.tuple [qfd (qgN a t).1, i64 (qgN a t).2]) := by
 have hav : AVal.cells (some 4) a.v = some [.p (.sl a.ids.length (qaU Ty.cells a.ids)), bl a.root.cell, i64 a.root.n, bl a.jumps] := rfl
 have hal : ldL [.p (.sl a.ids.length (qaU Ty.cells a.ids)), bl a.root.cell, i64 a.root.n, bl a.jumps] 0 (some 4) = some a.v := rfl
 have hf0 : AVal.cells none (.sl 0 [] .full) = some [.sl 0 [] .full] := rfl
 unfold qgN
 by_cases hc : qbJ a t = 0
 ·have hnd := qiB hc ok h1 hs
  let x := vw (qaD a) t
  have hoff := qgL (κ := K27) (N0 := fun q => q.2.2.1 + 4) (l4 := fun q => q.2.2.1 + 1) (l7 := fun q => q.2.2.1 + 2) (yv := fun q => .yield (q.2.2.1 + 3)) (someV := fun _ => .p (.func 42 [] [])) (U := U27 x) (sm := qdg) (OS := fun _ => True) (live := fun m y => y.length + m ≤ 100000000) hnd (by omega) (fun m y h => by omega) (fun _ => rfl) (fun _ => rfl) (fun _ => rfl) (fun _ => rfl) (qvm x) (qvn x) (fun _ _ _ _ _ _ => trivial) (qse x) (qtP x)
  rw [if_pos hc]
  refine PC.of2 (cf := cf27) (np := 2) (args' := [a.v, t.v]) (by kernel_rfl) (by kernel_rfl) rfl (by simp only [List.all_cons, qan]; rfl) (by simp only [List.map_cons, qao]; rfl) (fun _ => rfl)
   (((qgM a t oa ok h1 hs).and ((qqf x (.p (.func 42 [] [])) rfl rfl rfl rfl).and (hoff.and (Ev.ge 1)))).mono fun n ⟨hl, ho, hoff, hn⟩ E s => ?_)
  let N := s.next
  let s21 := qaf (qaf (qaf s (.cells [.sl 0 [] .full])) (.cells x.c)) (.cells [.p (.func 42 [] [])])
  let Y := (qiC a t).map fun o => ((o.1, o.2.1) : Rw)
  suffices s27 (qae CP n E) n a.v t.v s = some (.tuple [qfd Y, i64 0], s21) from ⟨_, s21, (s27_eq _ _ _ _ _).trans this, rfl⟩
  have hrf : ∀ (F : FL) (L : LL) (kn kx kr : ASt → Res), qam F 4 = some (.ptr N 0) → (∃ p, qam L 3 = some p) → (∀ s' : ASt, ∀ pre tok H, s'.heap = pre ++ (N, .cells [qbx tok Y]) :: H → (∀ v ∈ pre, v.1 ≠ N) → ∃ s2, kn s' = some (.tuple [qbx tok Y, i64 0], s2)) → qky (qae CP n E) n 31 (.func 94 [] [.ptr (N + 1) 0, .ptr (N + 2) 0]) [19, 20] ra27 rb27 F L s21 kn kx kr (.tuple [qfd Y, i64 0]) := by
   intro F L kn kx kr hF4 ⟨pl3, hL3⟩ hkn
   refine qsd hn fun fr lo hF hh hlo hL => ?_
   have hf4 := hF 4 _ hF4
   have hU : U27 x (fr, lo, N, s.heap) [] E (qaf s21 (.loop 0 none fr lo [19, 20] ra27 rb27)).heap (qkd (qaf s21 (.loop 0 none fr lo [19, 20] ra27 rb27))) := ⟨⟨hf4, hh, hlo 3, hL 3 _ hL3⟩, 0, rfl, fun h => absurd rfl h⟩
   obtain ⟨s', pre', H', e1, e2, e3, e4, ⟨_, tok, hH', _⟩⟩ := hoff (fr, lo, N, s.heap) [] E (qaf s21 (.loop 0 none fr lo [19, 20] ra27 rb27)) (Nat.le_refl _) hU (by show 0 + 22 * t.size ≤ _; omega)
   rw [qoK, List.nil_append] at hH'
   subst hH'
   have hk := hkn { s' with heap := pre' ++ (s21.next, .gone) :: (N + 2, .cells [.p (.func 42 [] [])]) :: (N + 1, .cells x.c) :: (N, .cells [qbx tok Y]) :: s.heap } (pre' ++ [(s21.next, .gone), (N + 2, .cells [.p (.func 42 [] [])]), (N + 1, .cells x.c)]) tok s.heap (by simp only [List.append_assoc, List.cons_append, List.nil_append]) (by
    intro v hv
    simp only [List.mem_append, List.mem_cons, List.not_mem_nil, or_false] at hv
    rcases hv with hv | rfl | rfl | rfl
    ·have := e3 v hv; simp only at this; omega
    ·show N + 1 + 1 + 1 ≠ N; omega
    ·show N + 2 ≠ N; omega
    ·show N + 1 ≠ N; omega)
   obtain ⟨s2, hk⟩ := hk
   refine ⟨.normal, s', pre', _, s2, _, e1, e2, fun v hv => by have := e3 v hv; simp only at this; show v.1 ≠ N + 1 + 1 + 1; omega, ?_, hk⟩
   show AVal.tuple [qcj (qbx tok Y), _] = _
   have : qcj (qbx tok Y) = qbS (qbx tok Y) := by cases Y <;> rfl
   rw [this, qqU]
   rfl
  have one : ∀ v : AVal, ldL [v] 0 none = some v := fun _ => rfl
  have hlk : ∀ E s, cl (qae CP n E) 40 [a.v, t.v] s = some (.tuple [x.v, i64 0], s) := by
   intro E s
   have := hl E s
   rw [hc] at this
   exact this
  unfold s27
  simp only [hav, hal, hlk, ho, qal, qaW, qay, qbR, qfD, qag, qbm, decide_true, Bool.not_true, qaa, cond_false, Option.map_some, Option.bind_some, qab, qah, qar, qas, qaS]
  refine qoH 5 3 ?_ (by omega) ?_ (hrf _ _ _ _ _ rfl ⟨_, rfl⟩ fun s' pre tok H hh hp => ?_)
  ·intro p hp
   simp only [List.mem_cons, List.not_mem_nil, or_false] at hp
   rcases hp with rfl | rfl | rfl | rfl | rfl | rfl | rfl | rfl | rfl | rfl | rfl | rfl | rfl | rfl | rfl | rfl | rfl | rfl <;> simp only <;> omega
  ·intro p hp
   simp only [List.mem_cons, List.not_mem_nil, or_false] at hp
   rcases hp with rfl | rfl | rfl | rfl | rfl | rfl | rfl | rfl <;> simp only <;> omega
  ·have hld : qaj (qae CP n E).E s' s.next = some [qbx tok Y] := qbn hh hp
   have hst := qd1 (l := s.next) (o := 0) hh hp (qfV tok Y) (new := [qbx tok Y]) rfl
   have hld2 : qaj (qae CP n E).E { s' with heap := pre ++ (s.next, .cells [qbx tok Y]) :: H } s.next = some [qbx tok Y] := qbn rfl hp
   refine ⟨{ s' with heap := pre ++ (s.next, .cells [qbx tok Y]) :: H }, ?_⟩
   simp only [ldP hld, ldP hld2, one, qeQ, hst, Option.bind_some]
 ·rw [if_neg hc]
  refine PC.of2 (cf := cf27) (np := 2) (args' := [a.v, t.v]) (by kernel_rfl) (by kernel_rfl) rfl (by simp only [List.all_cons, qan]; rfl) (by simp only [List.map_cons, qao]; rfl) (fun _ => rfl)
   ((qgM a t oa ok h1 hs).mono fun n hl E s => ⟨.tuple [.sl 0 [] .full, i64 (qbJ a t)], qaf s (.cells [.sl 0 [] .full]), (s27_eq _ _ _ _ _).trans ?_, rfl⟩)
  have hst : stH (qaf s (.cells [.sl 0 [] .full])) (.ptr s.next 0) [.sl 0 [] .full] = some (qaf s (.cells [.sl 0 [] .full])) := qg8 _ _ _ _ _ rfl rfl
  unfold s27
  simp only [hav, hal, hl, hc, hf0, hst, qb4, qal, qaW, qay, qfD, qag, qbm, decide_false, Bool.not_false, qaa, cond_true, Option.map_some, Option.bind_some, qab, qah, qar, qas, qaS, qci]
end Go.AI.Tryz
namespace Go.AI
mutual
def Tm.put1 (u : Tm) : Nat → Tm → Tm
 | 0, _ => u
 | j + 1, .mk k n m i ks => .mk k n m i (Tm.putL u j ks)
def Tm.putL (u : Tm) : Nat → List Tm → List Tm
 | _, [] => []
 | j, k :: r => if j < k.size then Tm.put1 u j k :: r else k :: Tm.putL u (j - k.size) r
end
theorem Tm.put1_succ (u t : Tm) (j : Nat) : Tm.put1 u (j + 1) t = t.with (Tm.putL u j t.ks) := by
 cases t; rw [Tm.put1]; rfl
def qdh (a : Int) (u : Tm) : Int → Tm → Int → Int × (Tm × Bool) := fun c t _ => (qa8 .i64 (c + 1), if qa8 .i64 (qa8 .i64 (c + 1) - 1) = a then (u, false) else (t, true))
theorem ql8 {a : Int} {u : Tm} {c : Nat} (h : c ≤ 1000000000) (t : Tm) (l : Int) : qdh a u (.ofNat c) t l = (.ofNat (c + 1), if Int.ofNat c = a then (u, false) else (t, true)) := by
 have h1 : qa8 .i64 (Int.ofNat c + 1) = .ofNat (c + 1) := qbT (by simp only [Int.ofNat_eq_natCast]; omega) (by simp only [Int.ofNat_eq_natCast]; omega)
 have h2 : qa8 .i64 (Int.ofNat (c + 1) - 1) = .ofNat c := by
  have : Int.ofNat (c + 1) - 1 = Int.ofNat c := by simp only [Int.ofNat_eq_natCast]; omega
  rw [this]
  exact qbT (by simp only [Int.ofNat_eq_natCast]; omega) (by simp only [Int.ofNat_eq_natCast]; omega)
 unfold qdh
 rw [h1, h2]
def PutR (a c : Nat) (u : Tm) (sz : Nat) {α : Type} (t : α) (put : Nat → α) (r : Int × α) : Prop :=
 if c ≤ a ∧ a < c + sz then ∃ c' : Nat, r = (.ofNat c', put (a - c)) ∧ a < c' ∧ c' ≤ c + sz else r = (.ofNat (c + sz), t)
theorem PutR.inn {a c : Nat} {u : Tm} {sz : Nat} {α : Type} {t : α} {put : Nat → α} {r : Int × α} (h : c ≤ a ∧ a < c + sz) : PutR a c u sz t put r ↔ ∃ c' : Nat, r = (.ofNat c', put (a - c)) ∧ a < c' ∧ c' ≤ c + sz := by
 unfold PutR; rw [if_pos h]
theorem PutR.out {a c : Nat} {u : Tm} {sz : Nat} {α : Type} {t : α} {put : Nat → α} {r : Int × α} (h : ¬(c ≤ a ∧ a < c + sz)) : PutR a c u sz t put r ↔ r = (.ofNat (c + sz), t) := by
 unfold PutR; rw [if_neg h]
theorem Tm.with_ks (t : Tm) : t.with t.ks = t := by cases t; rfl
theorem ql9 (a : Nat) (u : Tm) : ∀ (d c : Nat) (t : Tm) (l : Int), t.size ≤ d → c + t.size ≤ 1000000000 → PutR a c u t.size t (fun j => Tm.put1 u j t) (qcz (qdh (.ofNat a) u) d (.ofNat c) t l)
 | 0, c, t, l, h, _ => by have := Tm.size_pos t; omega
 | d + 1, c, t, l, h, hc => by
  have hk : ∀ (lab : Bool) (ks : List Tm) (j c : Nat), (∀ u ∈ ks, u.size ≤ d) → c + Tm.sizeL ks ≤ 1000000000 → PutR a c u (Tm.sizeL ks) ks (fun j => Tm.putL u j ks) (qeU (qcz (qdh (.ofNat a) u) d) lab l j (.ofNat c) ks) := by
   intro lab ks
   induction ks with
   | nil => intro j c _ _; rw [PutR.out (by simp only [Tm.sizeL]; omega)]; rfl
   | cons w r ih =>
    intro j c hu hc
    simp only [Tm.sizeL] at hc
    have h1 := ql9 a u d c w (if lab && decide (j = 0) then l + 1 else l) (hu w (List.mem_cons_self ..)) (by omega)
    have ih := fun c' hc' => ih (j + 1) c' (fun v hv => hu v (List.mem_cons_of_mem _ hv)) hc'
    simp only [qeU, Tm.sizeL, Tm.putL]
    by_cases hin : c ≤ a ∧ a < c + w.size
    ·rw [PutR.inn hin] at h1
     obtain ⟨c', e, h3, h4⟩ := h1
     have ih := ih c' (by omega)
     rw [PutR.out (by omega)] at ih
     rw [e]
     simp only
     rw [ih, PutR.inn (by omega)]
     refine ⟨c' + Tm.sizeL r, ?_, by omega, by omega⟩
     rw [if_pos (by omega)]
    ·rw [PutR.out hin] at h1
     rw [h1]
     simp only
     have ih := ih (c + w.size) (by omega)
     by_cases hin2 : c + w.size ≤ a ∧ a < c + w.size + Tm.sizeL r
     ·rw [PutR.inn hin2] at ih
      obtain ⟨c', e, h3, h4⟩ := ih
      rw [e, PutR.inn (by omega)]
      refine ⟨c', ?_, h3, by omega⟩
      rw [if_neg (by omega)]
      have : a - c - w.size = a - (c + w.size) := by omega
      rw [this]
     ·rw [PutR.out hin2] at ih
      rw [ih, PutR.out (by omega)]
      have : c + w.size + Tm.sizeL r = c + (w.size + Tm.sizeL r) := by omega
      rw [this]
  have hsz := Tm.size_ks t
  have hp := Tm.size_pos t
  unfold qcz
  rw [ql8 (by omega)]
  by_cases ha : c = a
  ·subst ha
   rw [if_pos rfl]
   rw [PutR.inn (by omega)]
   simp only [Bool.false_eq_true, if_false]
   refine ⟨c + 1, ?_, by omega, by omega⟩
   rw [Nat.sub_self, Tm.put1]
  ·rw [if_neg (fun h => ha (Int.ofNat.inj h))]
   simp only [if_true]
   have := hk (decide (t.k = 11)) t.ks 0 (c + 1) (fun v hv => by have := Tm.sizeL_mem hv; omega) (by omega)
   by_cases hin : c + 1 ≤ a ∧ a < c + 1 + Tm.sizeL t.ks
   ·rw [PutR.inn hin] at this
    obtain ⟨c', e, h3, h4⟩ := this
    rw [e, PutR.inn (by omega)]
    refine ⟨c', ?_, h3, by omega⟩
    simp only
    have : a - c = (a - (c + 1)) + 1 := by omega
    rw [this, Tm.put1_succ]
   ·rw [PutR.out hin] at this
    rw [this, PutR.out (by omega)]
    simp only
    have : c + 1 + Tm.sizeL t.ks = c + t.size := by omega
    rw [this, Tm.with_ks]
end Go.AI
namespace Go.AI.Tryz
def RP (a : Int) (u : Tm) (q : Nat × qaJ) (c : Int) (_ : qaJ) (s : ASt) : Prop := s.heap = (q.1 + 2, .cells [i64 c]) :: (q.1 + 1, .cells u.c) :: (q.1, .cells [i64 a]) :: q.2
end Go.AI.Tryz
namespace Go.AI.Tryz
def Lk (x : Sc) (t : Tm) (y : Sc) (t' : Tm) : Prop := szF x t = szF y t' ∧ ∀ b, qdA szF x t b = qdA szF y t' b
def LkK (sx sy : Nat → Sc) : Nat → List Tm → List Tm → Prop
 | _, [], [] => True
 | j, u :: r, w :: q => Lk (sx j) u (sy j) w ∧ LkK sx sy (j + 1) r q
 | _, _, _ => False
theorem qma {x : Sc} {t : Tm} (h : t.k ≠ 16) (h2 : t.k ≠ 17) (b : Bs) : qdA szF x t b = (!b.cell && is2 (szF x t) b.n) := by
 unfold qdA
 rw [if_neg h, if_neg h2]
 cases b.cell <;> simp
theorem qoL {x : Sc} (i : Int) (b : Bs) : qdA szF x (.cel i) b = (b.cell && (match x.get i with | some e => e.ty.res.cell && decide (e.ty.res.n = b.n) | none => false)) := by
 unfold qdA
 rw [qcD (.cel i)]
 cases b.cell with
 | true => simp only [if_true, Bool.true_and, Tm.k_mk, Tm.i_mk]; rfl
 | false =>
  simp only [Bool.false_eq_true, if_false, qfq, Bool.false_and]
theorem qoM {x : Sc} (u w : Tm) (b : Bs) : qdA szF x (.obj u w) b = (b.cell && (is2 (szF x u) b.n && is2 (szF (x.with ⟨⟨[], ⟨false, b.n⟩⟩, true⟩) w) 1)) := by
 unfold qdA
 rw [qcD (.obj u w)]
 cases b.cell with
 | true => simp only [if_true, Bool.true_and, Tm.k_mk, Tm.ks_mk, Int.reduceEq, if_false]
 | false =>
  simp only [Bool.false_eq_true, if_false, qd8, Bool.false_and]
theorem Lk.of_sz {x y : Sc} {t t' : Tm} (h : szF x t = szF y t') (h1 : t.k ≠ 16 ∧ t.k ≠ 17) (h2 : t'.k ≠ 16 ∧ t'.k ≠ 17) : Lk x t y t' := by
 refine ⟨h, fun b => ?_⟩
 rw [qma h1.1 h1.2, qma h2.1 h2.2, h]
theorem qvI {x : Sc} {t : Tm} (h : (szF x t).2 = true) : t.k ≠ 16 ∧ t.k ≠ 17 := by
 cases qdq h with
 | cel i => rw [qfq] at h; cases h
 | obj u w => rw [qd8] at h; cases h
 | _ => exact ⟨by simp [Tm.k], by simp [Tm.k]⟩
theorem Lk.of_ok {x y : Sc} {t t' : Tm} (h : szF x t = szF y t') (h1 : (szF x t).2 = true) : Lk x t y t' := Lk.of_sz h (qvI h1) (qvI (by rw [← h]; exact h1))
theorem LkK.args {x y : Sc} : ∀ {ks ks' : List Tm} (j : Nat) {ps : List Bs}, LkK (fun _ => x) (fun _ => y) j ks ks' → qbB (qdA szF x) ks ps = qbB (qdA szF y) ks' ps
 | [], [], _, ps, _ => by cases ps <;> rfl
 | u :: r, w :: q, j, ps, h => by
  unfold LkK at h
  cases ps with
  | nil => rfl
  | cons b ps =>
   simp only [qbB, h.1.2 b]
   rw [LkK.args (j + 1) h.2]
 | [], _ :: _, _, _, h => h.elim
 | _ :: _, [], _, _, h => h.elim
theorem Lk.node {x y : Sc} {t t' : Tm} (hs : Sh t) (hs' : Sh t') (hk : t'.k = t.k) (hm : t'.m = t.m) (hn : t.k ≠ 12 → t'.n = t.n) (h12 : t.k = 12 → qbw t.n x.size = qbw t'.n y.size) (hi : x.get t.i = y.get t'.i)
  (h18 : t.k = 18 → decide (x.top < t.i) = decide (y.top < t'.i)) (hks : LkK (x.kid t) (y.kid t') 0 t.ks t'.ks) : Lk x t y t' := by
 cases hs <;> cases hs' <;> first | (exfalso; revert hk; simp only [Tm.k_mk, Int.reduceEq, imp_self]; done) | skip
 case num.num n m n' m' =>
  have e1 : n' = n := hn (by simp [Tm.k])
  have e2 : m' = m := hm
  subst e1 e2
  exact Lk.of_sz (by rw [qdx, qdx]) (by simp [Tm.k]) (by simp [Tm.k])
 case use.use i ks i' ks' =>
  have e : x.get i = y.get i' := hi
  have hks : LkK (fun _ => x) (fun _ => y) 0 ks ks' := hks
  refine Lk.of_sz ?_ (by simp [Tm.k]) (by simp [Tm.k])
  rw [qgD, qgD, e, hks.args]
 case get.get i i' =>
  have e : x.get i = y.get i' := hi
  refine Lk.of_sz ?_ (by simp [Tm.k]) (by simp [Tm.k])
  rw [qhE, qhE, e]
 case put.put i u i' u' =>
  have e : x.get i = y.get i' := hi
  have h1 : szF x u = szF y u' := hks.1.1
  refine Lk.of_sz ?_ (by simp [Tm.k]) (by simp [Tm.k])
  rw [qeJ, qeJ, e, h1]
 case op.op n m u w n' m' u' w' =>
  have e1 : n' = n := hn (by simp [Tm.k])
  have e2 : m' = m := hm
  subst e1 e2
  have h1 : szF x u = szF y u' := hks.1.1
  have h2 : szF x w = szF y w' := hks.2.1.1
  refine Lk.of_sz ?_ (by simp [Tm.k]) (by simp [Tm.k])
  rw [qeK, qeK, h1, h2]
 case az.az n u n' u' =>
  have e1 : n' = n := hn (by simp [Tm.k])
  subst e1
  have h1 : szF x u = szF y u' := hks.1.1
  refine Lk.of_sz ?_ (by simp [Tm.k]) (by simp [Tm.k])
  rw [qeL, qeL, h1]
 case seq.seq u w u' w' =>
  have h1 : szF x u = szF y u' := hks.1.1
  have h2 : szF x w = szF y w' := hks.2.1.1
  refine Lk.of_sz ?_ (by simp [Tm.k]) (by simp [Tm.k])
  rw [qbQ, qbQ, h1, h2]
 case ite.ite c u w c' u' w' =>
  have h0 : szF x c = szF y c' := hks.1.1
  have h1 : szF x u = szF y u' := hks.2.1.1
  have h2 : szF x w = szF y w' := hks.2.2.1.1
  refine Lk.of_sz ?_ (by simp [Tm.k]) (by simp [Tm.k])
  rw [qcm, qcm, h0, h1, h2]
 case whl.whl u w u' w' =>
  have h1 : szF x u = szF y u' := hks.1.1
  have h2 : szF x w = szF y w' := hks.2.1.1
  refine Lk.of_sz ?_ (by simp [Tm.k]) (by simp [Tm.k])
  rw [qfp, qfp, h1, h2]
 case new.new n m u n' m' u' =>
  have e1 : n' = n := hn (by simp [Tm.k])
  have e2 : m' = m := hm
  subst e1 e2
  have h1 : szF (x.with ⟨⟨[], ⟨true, n'⟩⟩, false⟩) u = szF (y.with ⟨⟨[], ⟨true, n'⟩⟩, false⟩) u' := hks.1.1
  refine Lk.of_sz ?_ (by simp [Tm.k]) (by simp [Tm.k])
  rw [qeM, qeM, h1]
 case lbl.lbl u w u' w' =>
  have h1 : szF { x with size := x.size + 1 } u = szF { y with size := y.size + 1 } u' := hks.1.1
  have h2 : szF x w = szF y w' := hks.2.1.1
  refine Lk.of_sz ?_ (by simp [Tm.k]) (by simp [Tm.k])
  rw [qd6, qd6, h1, h2]
 case jmp.jmp n n' =>
  refine Lk.of_sz ?_ (by simp [Tm.k]) (by simp [Tm.k])
  rw [qlY, qlY]
  exact congrArg _ (h12 rfl)
 case cho.cho u w u' w' =>
  have h1 : szF x u = szF y u' := hks.1.1
  have h2 : szF x w = szF y w' := hks.2.1.1
  refine Lk.of_sz ?_ (by simp [Tm.k]) (by simp [Tm.k])
  rw [qd7, qd7, h1, h2]
 case hang.hang => exact Lk.of_sz (by rw [qit, qit]) (by simp [Tm.k]) (by simp [Tm.k])
 case val.val i i' =>
  have e : x.get i = y.get i' := hi
  refine Lk.of_sz ?_ (by simp [Tm.k]) (by simp [Tm.k])
  rw [qhF, qhF, e]
 case cel.cel i i' =>
  have e : x.get i = y.get i' := hi
  refine ⟨by rw [qfq, qfq], fun b => ?_⟩
  rw [qoL, qoL, e]
 case obj.obj u w u' w' =>
  have h1 : szF x u = szF y u' := hks.1.1
  have h2 : szF (x.with ⟨⟨[], ⟨false, (szF x u).1⟩⟩, true⟩) w = szF (y.with ⟨⟨[], ⟨false, (szF y u').1⟩⟩, true⟩) w' := hks.2.1.1
  refine ⟨by rw [qd8, qd8], fun b => ?_⟩
  rw [qoM, qoM]
  by_cases hb : (szF x u).1 = b.n
  ·rw [← h1, hb] at h2
   rw [h1, h2]
  ·have : is2 (szF x u) b.n = false := by simp only [is2, hb, decide_false, Bool.and_false]
   rw [← h1, this]
   simp only [Bool.false_and]
 case ntc.ntc n i u n' i' u' =>
  have e1 : n' = n := hn (by simp [Tm.k])
  subst e1
  have e : x.get i = y.get i' := hi
  have h1 : szF x u = szF y u' := hks.1.1
  have h3 : decide (x.top < i) = decide (y.top < i') := h18 rfl
  refine Lk.of_sz ?_ (by simp [Tm.k]) (by simp [Tm.k])
  rw [qd9, qd9, h1, e, h3]
theorem qoN {x : Sc} {t : Tm} : Lk x t x t := ⟨rfl, fun _ => rfl⟩
theorem qmb {sx : Nat → Sc} : ∀ (j : Nat) (l : List Tm), LkK sx sx j l l
 | _, [] => trivial
 | j, _ :: r => ⟨qoN, qmb (j + 1) r⟩
end Go.AI.Tryz
namespace Go.AI.Tryz
theorem qk6 {t : Tm} (h : Sh t) {ks : List Tm} (hl : ks.length = t.ks.length) : Sh (t.with ks) := by
 have h1 := qcD h
 refine qon ?_
 rw [← h1]
 obtain ⟨k, n, m, i, l⟩ := t
 simp only [Tm.ks] at hl
 show (match qcl formL k with | none => false | some f => (((f.n || decide (n = 0)) && (f.m || decide (m = 0))) && (f.i || decide (i = 0))) && (decide (f.k < 0) || decide (f.k = Int.ofNat ks.length))) = _
 simp only [hl]
 rfl
theorem qsf {t : Tm} (h : t.Ok) {ks : List Tm} (hl : ks.length = t.ks.length) (hk : ∀ u ∈ ks, u.Ok) : (t.with ks).Ok := by
 cases h with
 | mk h1 h2 h3 h4 h5 h6 => exact .mk h1 h2 h3 h4 (by simp only [Tm.ks] at hl; omega) hk
theorem qqh {x : Sc} {t : Tm} {ks : List Tm} (h : t.k = 17 → (szF x (t.ks.headD .z)).1 = (szF x (ks.headD .z)).1) (j : Nat) : x.kid (t.with ks) j = x.kid t j := by
 obtain ⟨k, n, m, i, l⟩ := t
 simp only [Sc.kid, Tm.with, Tm.k, Tm.n, Tm.ks] at h ⊢
 by_cases hk : k = 17
 ·rw [h hk]
  rfl
 ·have : ¬ (k = 17 ∧ j = 1) := fun h => hk h.1
  simp only [this, if_false]
  rfl
theorem LkK.hd {sx sy : Nat → Sc} {l m : List Tm} (h : LkK sx sy 0 l m) : (szF (sx 0) (l.headD .z)).1 = (szF (sy 0) (m.headD .z)).1 ∨ l = [] ∧ m = [] := by
 match l, m, h with
 | [], [], _ => exact .inr ⟨rfl, rfl⟩
 | u :: r, w :: q, h => exact .inl (by simp only [List.headD_cons]; rw [h.1.1])
theorem qgO {x : Sc} {t : Tm} (h : t.k = 17) : x.kid t 0 = x := by
 unfold Sc.kid
 rw [if_neg (by omega), if_neg (by simp), if_neg (by omega)]
theorem Lk.with {x : Sc} {t : Tm} {ks : List Tm} (h : Sh t) (hl : ks.length = t.ks.length) (hk : LkK (x.kid t) (x.kid t) 0 t.ks ks) : Lk x t x (t.with ks) := by
 have e : ∀ j, x.kid (t.with ks) j = x.kid t j := qqh fun h17 => by
  rcases hk.hd with h | ⟨h1, h2⟩
  ·rw [qgO h17] at h; exact h
  ·rw [h1, h2]
 refine Lk.node h (qk6 h hl) ?_ ?_ ?_ ?_ ?_ ?_ ?_
 ·cases t; rfl
 ·cases t; rfl
 ·cases t; intro _; rfl
 ·cases t; intro _; rfl
 ·cases t; rfl
 ·cases t; intro _; rfl
 ·rw [show x.kid (t.with ks) = x.kid t from funext e]
  cases t; exact hk
structure PutOk (x : Sc) (t : Tm) (p : Sc × Tm) (u r : Tm) : Prop where
 tr : Lk x t x r
 size : r.size + p.2.size = t.size + u.size
 ok : r.Ok
 sh : Sh r
theorem qmc (u : Tm) : ∀ (ks : List Tm) (j : Nat), (Tm.putL u j ks).length = ks.length
 | [], j => by cases j <;> rfl
 | k :: r, j => by
  unfold Tm.putL
  split
  ·rfl
  ·simp only [List.length_cons, qmc u r]
theorem qjb {u : Tm} (hu : u.Ok) {p : Sc × Tm} (hp : Lk p.1 p.2 p.1 u) (hsu : Sh u) : ∀ (d : Nat) (t : Tm) (x : Sc) (j : Nat), t.size ≤ d → (qbf t x)[j]? = some p → Nd x t → PutOk x t p u (Tm.put1 u j t)
 | 0, t, _, _, h, _, _ => by have := Tm.size_pos t; omega
 | d + 1, t, x, 0, hd, hj, hn => by
  rw [qdZ] at hj
  simp only [List.getElem?_cons_zero, Option.some.injEq] at hj
  subst hj
  unfold Tm.put1
  exact ⟨hp, by show u.size + t.size = _; omega, hu, hsu⟩
 | d + 1, t, x, j + 1, hd, hj, hn => by
  rw [qdZ] at hj
  simp only [List.getElem?_cons_succ] at hj
  have hK : ∀ (r : List Tm) (sc : Nat → Sc) (m j : Nat), (∀ w ∈ r, w.size ≤ d ∧ w.Ok) → (∀ i w, r[i]? = some w → Nd (sc (m + i)) w) → (qbC sc m r)[j]? = some p →
    LkK sc sc m r (Tm.putL u j r) ∧ Tm.sizeL (Tm.putL u j r) + p.2.size = Tm.sizeL r + u.size ∧ ∀ w ∈ Tm.putL u j r, w.Ok := by
   intro r
   induction r with
   | nil => intro sc m j _ _ h; simp [qbC] at h
   | cons k r ih =>
    intro sc m j hsz hnd h
    simp only [qbC] at h
    unfold Tm.putL
    by_cases hlt : j < k.size
    ·rw [if_pos hlt]
     rw [List.getElem?_append_left (by rw [qdf]; exact hlt)] at h
     obtain ⟨h1, h2, h3, h4⟩ := qjb hu hp hsu d k (sc m) j (hsz k (List.mem_cons_self ..)).1 h (hnd 0 k rfl)
     refine ⟨⟨h1, qmb _ _⟩, by simp only [Tm.sizeL]; omega, fun w hw => ?_⟩
     rcases List.mem_cons.1 hw with rfl | hw
     ·exact h3
     ·exact (hsz w (List.mem_cons_of_mem _ hw)).2
    ·rw [if_neg hlt]
     rw [List.getElem?_append_right (by rw [qdf]; omega), qdf] at h
     obtain ⟨h1, h2, h3⟩ := ih sc (m + 1) (j - k.size) (fun w hw => hsz w (List.mem_cons_of_mem _ hw)) (fun i w hi => by
      have := hnd (i + 1) w (by simpa using hi)
      rw [show m + 1 + i = m + (i + 1) by omega]
      exact this) h
     refine ⟨⟨qoN, h1⟩, by simp only [Tm.sizeL]; omega, fun w hw => ?_⟩
     rcases List.mem_cons.1 hw with rfl | hw
     ·exact (hsz w (List.mem_cons_self ..)).2
     ·exact h3 w hw
  obtain ⟨h1, h2, h3⟩ := hK t.ks (fun j => x.kid t j) 0 j (fun w hw => ⟨by have := qa4 hw; omega, hn.ok.kids w hw⟩) (fun i w hi => by rw [Nat.zero_add]; exact hn.kid hi) hj
  rw [Tm.put1_succ]
  have hl := qmc u t.ks j
  refine ⟨Lk.with hn.sh hl h1, ?_, qsf hn.ok hl h3, qk6 hn.sh hl⟩
  have e1 := Tm.size_ks t
  have e2 := Tm.size_ks (t.with (Tm.putL u j t.ks))
  have e3 : (t.with (Tm.putL u j t.ks)).ks = Tm.putL u j t.ks := by cases t; rfl
  rw [e3] at e2
  omega
end Go.AI.Tryz
namespace Go.AI.Tryz
structure Good (x : Sc) (t u : Tm) : Prop where
 sz : szF x t = szF x u
 ok2 : (szF x t).2 = true
 le : u.size ≤ t.size
 ok : u.Ok
theorem qhJ {n m : Int} (h : 0 ≤ n ∧ n ≤ 64) (hm : 0 ≤ m ∧ m ≤ 64) : (Tm.num n m).Ok := .mk (by decide) (by omega) (by omega) (by decide) (by decide) (fun _ h => by cases h)
theorem ok1_of {k n m i : Int} {a : Tm} (hk : 0 ≤ k ∧ k < 256) (hn : -9223372036854775808 ≤ n ∧ n ≤ 9223372036854775807) (hm : -9223372036854775808 ≤ m ∧ m ≤ 9223372036854775807) (hi : -9223372036854775808 ≤ i ∧ i ≤ 9223372036854775807) (ha : a.Ok) : (Tm.mk k n m i [a]).Ok :=
 .mk hk hn hm hi (by rw [qbF]; simp only [List.length_cons, List.length_nil]; omega) fun u hu => by
  simp only [List.mem_cons, List.not_mem_nil, or_false] at hu
  subst hu; exact ha
theorem ok2_of {k n m i : Int} {a b : Tm} (hk : 0 ≤ k ∧ k < 256) (hn : -9223372036854775808 ≤ n ∧ n ≤ 9223372036854775807) (hm : -9223372036854775808 ≤ m ∧ m ≤ 9223372036854775807) (hi : -9223372036854775808 ≤ i ∧ i ≤ 9223372036854775807) (ha : a.Ok) (hb : b.Ok) : (Tm.mk k n m i [a, b]).Ok :=
 .mk hk hn hm hi (by rw [qbF]; simp only [List.length_cons, List.length_nil]; omega) fun u hu => by
  simp only [List.mem_cons, List.not_mem_nil, or_false] at hu
  rcases hu with rfl | rfl
  ·exact ha
  ·exact hb
theorem ok3_of {k n m i : Int} {a b c : Tm} (hk : 0 ≤ k ∧ k < 256) (hn : -9223372036854775808 ≤ n ∧ n ≤ 9223372036854775807) (hm : -9223372036854775808 ≤ m ∧ m ≤ 9223372036854775807) (hi : -9223372036854775808 ≤ i ∧ i ≤ 9223372036854775807) (ha : a.Ok) (hb : b.Ok) (hc : c.Ok) : (Tm.mk k n m i [a, b, c]).Ok :=
 .mk hk hn hm hi (by rw [qbF]; simp only [List.length_cons, List.length_nil]; omega) fun u hu => by
  simp only [List.mem_cons, List.not_mem_nil, or_false] at hu
  rcases hu with rfl | rfl | rfl
  ·exact ha
  ·exact hb
  ·exact hc
theorem qbZ {t : Tm} (h : t.Ok) : (0 ≤ t.k ∧ t.k < 256) ∧ (-9223372036854775808 ≤ t.n ∧ t.n ≤ 9223372036854775807) ∧ (-9223372036854775808 ≤ t.m ∧ t.m ≤ 9223372036854775807) ∧ (-9223372036854775808 ≤ t.i ∧ t.i ≤ 9223372036854775807) := by cases h with | mk h1 h2 h3 h4 _ _ => exact ⟨h1, h2, h3, h4⟩
theorem z64 : (-9223372036854775808 : Int) ≤ 0 ∧ (0 : Int) ≤ 9223372036854775807 := by decide
theorem o64 : (-9223372036854775808 : Int) ≤ 1 ∧ (1 : Int) ≤ 9223372036854775807 := by decide
theorem qiD {a m : Int} (ha : 0 ≤ a) (hm : 1 ≤ m) : 0 ≤ a.tmod m ∧ a.tmod m < m := by
 rw [Int.tmod_eq_emod_of_nonneg ha]
 exact ⟨Int.emod_nonneg _ (by omega), Int.emod_lt_of_pos _ (by omega)⟩
theorem qtQ {n m a b : Int} (hm : 1 ≤ m) (ha : 0 ≤ a) (hb : 0 ≤ b) (hb2 : b < m) : (n = 1 ∨ n = 2 ∨ n = 3 → 0 ≤ ql0 n m a b ∧ ql0 n m a b < m) ∧ (n = 4 ∨ n = 5 → 0 ≤ ql0 n m a b ∧ ql0 n m a b < 2) := by
 unfold ql0
 refine ⟨fun h => ?_, fun h => ?_⟩
 ·rcases h with rfl | rfl | rfl
  ·exact qiD (by omega) hm
  ·exact qiD (by omega) hm
  ·exact qiD (Int.mul_nonneg ha hb) hm
 ·rcases h with rfl | rfl <;> simp only [Int.reduceEq, if_false, if_true]
  ·cases decide (a = b) <;> simp
  ·cases decide (a < b) <;> simp
theorem qmU {x : Sc} {t : Tm} {n m : Int} (h : (szF x t).2 = true) (hn : qcr t n m = true) : t = .num n m := by
 simp only [qcr, Bool.and_eq_true, decide_eq_true_eq] at hn
 obtain ⟨p, q, rfl⟩ := qfa (qdq h) hn.1
 rw [show p = n from hn.2.1, show q = m from hn.2.2]
theorem qsg {x : Sc} {t r : Tm} (h : Nd x t) (e : opR x t = some r) : Good x t r := by
 by_cases hk : t.k = 5
 ·have hsz := h.gd.sz (by omega) (by omega)
  have hok := h.ok
  have hko := hok.kids
  have hf := qbZ hok
  have hsc := h.sc
  cases h.sh with
  | op n m a b =>
   have e : (if qaO a && qaO b then some (.num (ql0 n m a.n b.n) (szF x (.op n m a b)).1) else none) = some r := e
   split at e
   ·rename_i hab
    simp only [Bool.and_eq_true] at hab
    simp only [Option.some.injEq] at e
    subst e
    have hs2 := hsz
    rw [qeK] at hs2 ⊢
    have hin : qby m = true ∧ is2 (szF x a) m = true ∧ is2 (szF x b) m = true := by
     split at hs2
     ·simpa only [Bool.and_eq_true] using hs2
     ·split at hs2
      ·simpa only [Bool.and_eq_true] using hs2
      ·cases hs2
    obtain ⟨h1, h2, h3⟩ := hin
    rw [is2_iff] at h2 h3
    have ra := qdO (x := x) (by rw [h2]) hab.1
    have rb := qdO (x := x) (by rw [h3]) hab.2
    rw [h2] at ra; rw [h3] at rb
    rw [isSize_iff] at h1
    have hr := qtQ (n := n) (m := m) (a := a.n) (b := b.n) h1.1 ra.1 rb.1 (by have := rb.2.2.2; simp only at this; omega)
    by_cases hn : n = 1 ∨ n = 2 ∨ n = 3
    ·have hr := hr.1 hn
     rw [if_pos hn]
     refine ⟨?_, hsz, ?_, qhJ (by omega) (by simp only; omega)⟩
     ·rw [qeK, qdx, if_pos hn, h2, h3]
      simp only [is2, decide_true, Bool.and_true, isSize_iff.2 h1, isBelow_iff.2 hr]
     ·simp only [Tm.size, Tm.sizeL]; omega
    ·rw [if_neg hn] at hs2 ⊢
     by_cases hn2 : n = 4 ∨ n = 5
     ·have hr := hr.2 hn2
      rw [if_pos hn2]
      refine ⟨?_, hsz, ?_, qhJ (by omega) (by simp only; omega)⟩
      ·rw [qeK, qdx, if_neg hn, if_pos hn2, h2, h3]
       simp only [is2, decide_true, Bool.and_true, isSize_iff.2 h1, isBelow_iff.2 hr, isSize_iff.2 (show 1 ≤ (2:Int) ∧ (2:Int) ≤ 64 by decide)]
      ·simp only [Tm.size, Tm.sizeL]; omega
     ·rw [if_neg hn2] at hs2; cases hs2
   ·cases e
  | _ => simp only [Tm.k_mk] at hk; omega
 ·unfold opR at e; rw [if_neg hk] at e; cases e
theorem qsh {x : Sc} {t r : Tm} (h : Nd x t) (e : asR t = some r) : Good x t r := by
 by_cases hk : t.k = 6
 ·have hsz := h.gd.sz (by omega) (by omega)
  have hok := h.ok
  have hko := hok.kids
  have hf := qbZ hok
  have hsc := h.sc
  cases h.sh with
  | az n u =>
   have e : (if qaO u then some (.num (u.n.tmod n) n) else none) = some r := e
   split at e
   ·rename_i hu
    simp only [Option.some.injEq] at e
    subst e
    have hs2 := hsz
    rw [qeL, Bool.and_eq_true, isSize_iff] at hs2
    have ra := qdO (x := x) hs2.1 hu
    have hr := qiD ra.1 hs2.2.1
    refine ⟨?_, hsz, by simp only [Tm.size, Tm.sizeL]; omega, qhJ (by omega) (by omega)⟩
    rw [qeL, qdx, hs2.1, isSize_iff.2 hs2.2, isBelow_iff.2 hr]
   ·cases e
  | _ => simp only [Tm.k_mk] at hk; omega
 ·unfold asR at e; rw [if_neg hk] at e; cases e
theorem qoO {x : Sc} {t r : Tm} (h : Nd x t) (e : qkV x t = some r) : Good x t r := by
 by_cases hk : t.k = 6
 ·have hsz := h.gd.sz (by omega) (by omega)
  have hok := h.ok
  have hko := hok.kids
  have hf := qbZ hok
  have hsc := h.sc
  cases h.sh with
  | az n u =>
   have e : (if !qaO u && decide ((szF x u).1 = n) then some u else none) = some r := e
   split at e
   ·rename_i hu
    simp only [Bool.and_eq_true, decide_eq_true_eq] at hu
    simp only [Option.some.injEq] at e
    subst e
    have hs2 := hsz
    rw [qeL, Bool.and_eq_true] at hs2
    refine ⟨?_, hsz, by simp only [Tm.size, Tm.sizeL]; omega, hko _ (by simp [Tm.ks])⟩
    rw [qeL, hs2.1, hs2.2, ← hu.2, Bool.and_self, ← hs2.1]
   ·cases e
  | _ => simp only [Tm.k_mk] at hk; omega
 ·unfold qkV at e; rw [if_neg hk] at e; cases e
theorem qj1 {x : Sc} {t r : Tm} (h : Nd x t) (e : qdr t = some r) : Good x t r := by
 by_cases hk : t.k = 5
 ·have hsz := h.gd.sz (by omega) (by omega)
  have hok := h.ok
  have hko := hok.kids
  have hf := qbZ hok
  have hsc := h.sc
  cases h.sh with
  | op n m a b =>
   have e : (if (qkW n).isSome && (!qaO a && (qaO b && decide (b.n = (qkW n).getD 0))) then some a else none) = some r := e
   split at e
   ·rename_i hu
    simp only [Bool.and_eq_true] at hu
    simp only [Option.some.injEq] at e
    subst e
    have hs2 := hsz
    rw [qeK] at hs2
    have hin : qby m = true ∧ is2 (szF x a) m = true ∧ is2 (szF x b) m = true := by
     split at hs2
     ·simpa only [Bool.and_eq_true] using hs2
     ·split at hs2
      ·simpa only [Bool.and_eq_true] using hs2
      ·cases hs2
    obtain ⟨h1, h2, h3⟩ := hin
    have hn : n = 1 ∨ n = 2 ∨ n = 3 := by
     by_cases n1 : n = 1
     ·exact .inl n1
     ·by_cases n2 : n = 2
      ·exact .inr (.inl n2)
      ·by_cases n3 : n = 3
       ·exact .inr (.inr n3)
       ·have := hu.1
        simp only [qkW, n1, n2, n3, if_false, Option.isSome_none] at this
        cases this
    refine ⟨?_, hsz, by simp only [Tm.size, Tm.sizeL]; omega, hko _ (by simp [Tm.ks])⟩
    rw [qeK, if_pos hn, h1, h2, h3]
    rw [is2_iff] at h2
    rw [h2]; rfl
   ·cases e
  | _ => simp only [Tm.k_mk] at hk; omega
 ·unfold qdr at e; rw [if_neg hk] at e; cases e
theorem qoP {x : Sc} {t r : Tm} (h : Nd x t) (e : qkX t = some r) : Good x t r := by
 by_cases hk : t.k = 5
 ·have hsz := h.gd.sz (by omega) (by omega)
  have hok := h.ok
  have hko := hok.kids
  have hf := qbZ hok
  have hsc := h.sc
  cases h.sh with
  | op n m a b =>
   have e : (if (decide (n = 1) || (decide (n = 3) || decide (n = 4))) && (qaO a && !qaO b) then some (.op n m b a) else none) = some r := e
   split at e
   ·simp only [Option.some.injEq] at e
    subst e
    refine ⟨?_, hsz, by simp only [Tm.size, Tm.sizeL]; omega, ok2_of (by decide) hf.2.1 hf.2.2.1 z64 (hko _ (by simp [Tm.ks])) (hko _ (by simp [Tm.ks]))⟩
    rw [qeK, qeK, Bool.and_comm (is2 (szF x a) m)]
   ·cases e
  | _ => simp only [Tm.k_mk] at hk; omega
 ·unfold qkX at e; rw [if_neg hk] at e; cases e
theorem qsi {x : Sc} {t r : Tm} (h : Nd x t) (e : ifR t = some r) : Good x t r := by
 by_cases hk : t.k = 8
 ·have hsz := h.gd.sz (by omega) (by omega)
  have hok := h.ok
  have hko := hok.kids
  have hf := qbZ hok
  have hsc := h.sc
  cases h.sh with
  | ite c a b =>
   have e : (if qaO c then some (if c.n = 0 then b else a) else none) = some r := e
   split at e
   ·simp only [Option.some.injEq] at e
    have hs2 := hsz
    rw [qcm, Bool.and_eq_true, Bool.and_eq_true, is2_iff] at hs2
    have ha : szF x (.ite c a b) = szF x a := by
     rw [qcm, hs2.1.1, hs2.1.2, hs2.2]
     simp only [is2, decide_true, Bool.and_true]
     rw [← hs2.1.1]
    split at e
    ·subst e
     refine ⟨?_, hsz, by simp only [Tm.size, Tm.sizeL]; omega, hko _ (by simp [Tm.ks])⟩
     rw [ha, hs2.1.2, ← hs2.1.1]
    ·subst e
     exact ⟨ha, hsz, by simp only [Tm.size, Tm.sizeL]; omega, hko _ (by simp [Tm.ks])⟩
   ·cases e
  | _ => simp only [Tm.k_mk] at hk; omega
 ·unfold ifR at e; rw [if_neg hk] at e; cases e
theorem qoQ {x : Sc} {t r : Tm} (h : Nd x t) (e : qkY t = some r) : Good x t r := by
 by_cases hk : t.k = 8
 ·have hsz := h.gd.sz (by omega) (by omega)
  have hok := h.ok
  have hko := hok.kids
  have hf := qbZ hok
  have hsc := h.sc
  cases h.sh with
  | ite c a b =>
   have e : (if !qaO c && decide (a = b) then some (.seq (.az 1 c) a) else none) = some r := e
   split at e
   ·rename_i hu
    simp only [Bool.and_eq_true, decide_eq_true_eq] at hu
    simp only [Option.some.injEq] at e
    subst e
    have hs2 := hsz
    rw [qcm, Bool.and_eq_true, Bool.and_eq_true, is2_iff] at hs2
    refine ⟨?_, hsz, ?_, ok2_of (by decide) z64 z64 z64 (ok1_of (by decide) o64 z64 z64 (hko _ (by simp [Tm.ks]))) (hko _ (by simp [Tm.ks]))⟩
    ·rw [qcm, qbQ, qeL, hs2.1.1, hs2.1.2, hs2.2]
     simp only [is2, decide_true, Bool.and_true, Bool.true_and]
     rfl
    ·rw [← hu.2]
     simp only [Tm.size, Tm.sizeL]
     have := Tm.size_pos a
     omega
   ·cases e
  | _ => simp only [Tm.k_mk] at hk; omega
 ·unfold qkY at e; rw [if_neg hk] at e; cases e
theorem qoR {x : Sc} {t r : Tm} (h : Nd x t) (e : qkZ x t = some r) : Good x t r := by
 by_cases hk : t.k = 8
 ·have hsz := h.gd.sz (by omega) (by omega)
  have hok := h.ok
  have hko := hok.kids
  have hf := qbZ hok
  have hsc := h.sc
  cases h.sh with
  | ite c a b =>
   have e : (if qcr a 1 2 && (qcr b 0 2 && (!qaO c && decide ((szF x c).1 = 2))) then some c else none) = some r := e
   split at e
   ·rename_i hu
    simp only [Bool.and_eq_true, decide_eq_true_eq] at hu
    simp only [Option.some.injEq] at e
    subst e
    have hs2 := hsz
    rw [qcm, Bool.and_eq_true, Bool.and_eq_true, is2_iff] at hs2
    have ha := qmU hs2.1.1 hu.1
    refine ⟨?_, hsz, by simp only [Tm.size, Tm.sizeL]; omega, hko _ (by simp [Tm.ks])⟩
    have h1 : (szF x a).1 = 2 := by rw [ha, qdx]
    rw [qcm, hs2.1.1, hs2.1.2, hs2.2, h1, ← hu.2.2.2]
    simp only [is2, decide_true, Bool.and_true]
    rw [← hs2.2]
   ·cases e
  | _ => simp only [Tm.k_mk] at hk; omega
 ·unfold qkZ at e; rw [if_neg hk] at e; cases e
theorem qoS {x : Sc} {t r : Tm} (h : Nd x t) (e : qk0 t = some r) : Good x t r := by
 by_cases hk : t.k = 7
 ·have hsz := h.gd.sz (by omega) (by omega)
  have hok := h.ok
  have hko := hok.kids
  have hf := qbZ hok
  have hsc := h.sc
  cases h.sh with
  | seq a b =>
   have e : (if qaO a then some b else none) = some r := e
   split at e
   ·simp only [Option.some.injEq] at e
    subst e
    have hs2 := hsz
    rw [qbQ, Bool.and_eq_true] at hs2
    refine ⟨?_, hsz, by simp only [Tm.size, Tm.sizeL]; omega, hko _ (by simp [Tm.ks])⟩
    rw [qbQ, hs2.2, Bool.and_true]
   ·cases e
  | _ => simp only [Tm.k_mk] at hk; omega
 ·unfold qk0 at e; rw [if_neg hk] at e; cases e
theorem qoT {x : Sc} {t r : Tm} (h : Nd x t) (e : qg9 x t = some r) : Good x t r := by
 by_cases hk : t.k = 7
 ·have hsz := h.gd.sz (by omega) (by omega)
  have hok := h.ok
  have hko := hok.kids
  have hf := qbZ hok
  have hsc := h.sc
  cases h.sh with
  | seq a b =>
   have e : (if a.k = 12 ∨ a.k = 14 then (if !decide (b = .num 0 (szF x (.seq a b)).1) then some (.seq a (.num 0 (szF x (.seq a b)).1)) else none) else none) = some r := e
   split at e
   ·split at e
    ·simp only [Option.some.injEq] at e
     subst e
     have hr := qfU _ (.seq a b) x (Nat.le_refl _) hsc hsz
     have hs2 := hsz
     rw [qbQ, Bool.and_eq_true] at hs2
     refine ⟨?_, hsz, ?_, ok2_of (by decide) z64 z64 z64 (hko _ (by simp [Tm.ks])) (qhJ (by omega) (by omega))⟩
     ·rw [qbQ, qbQ, qdx, hs2.1, hs2.2]
      rw [qbQ] at hr
      rw [isSize_iff.2 hr, isBelow_iff.2 (by omega)]; rfl
     ·simp only [Tm.size, Tm.sizeL]
      have := Tm.size_pos b
      omega
    ·cases e
   ·cases e
  | _ => simp only [Tm.k_mk] at hk; omega
 ·unfold qg9 at e; rw [if_neg hk] at e; cases e
theorem qmV {x : Sc} {t r : Tm} (h : Nd x t) (e : qgE t = some r) : Good x t r := by
 by_cases hk : t.k = 9
 ·have hsz := h.gd.sz (by omega) (by omega)
  have hok := h.ok
  have hko := hok.kids
  have hf := qbZ hok
  have hsc := h.sc
  cases h.sh with
  | whl c b =>
   have e : (if qaO c && decide (c.n = 0) then some (.num 0 1) else none) = some r := e
   split at e
   ·simp only [Option.some.injEq] at e
    subst e
    have hs2 := hsz
    rw [qfp] at hs2
    simp only at hs2
    refine ⟨?_, hsz, by simp only [Tm.size, Tm.sizeL]; omega, qhJ (by decide) (by decide)⟩
    rw [qfp, qdx, hs2]; rfl
   ·cases e
  | _ => simp only [Tm.k_mk] at hk; omega
 ·unfold qgE at e; rw [if_neg hk] at e; cases e
theorem qoU {x : Sc} {t r : Tm} (h : Nd x t) (e : qk1 t = some r) : Good x t r := by
 by_cases hk : t.k = 11
 ·have hsz := h.gd.sz (by omega) (by omega)
  have hok := h.ok
  have hko := hok.kids
  have hf := qbZ hok
  have hsc := h.sc
  cases h.sh with
  | lbl u w =>
   have e : (if decide (u.k = 12) && decide (u.n = 0) then some w else none) = some r := e
   split at e
   ·simp only [Option.some.injEq] at e
    subst e
    have hs2 := hsz
    rw [qd6, Bool.and_eq_true, is2_iff] at hs2
    refine ⟨?_, hsz, by simp only [Tm.size, Tm.sizeL]; omega, hko _ (by simp [Tm.ks])⟩
    rw [qd6, hs2.1, hs2.2]
    simp only [is2, decide_true, Bool.and_true]
   ·cases e
  | _ => simp only [Tm.k_mk] at hk; omega
 ·unfold qk1 at e; rw [if_neg hk] at e; cases e
theorem qk7 {x : Sc} {t r : Tm} (h : Nd x t) (e : qer t = some r) : Good x t r := by
 by_cases hk : t.k = 13
 ·have hsz := h.gd.sz (by omega) (by omega)
  have hok := h.ok
  have hko := hok.kids
  have hf := qbZ hok
  have hsc := h.sc
  cases h.sh with
  | cho a b =>
   have e : (if decide (a = b) then some a else none) = some r := e
   split at e
   ·simp only [Option.some.injEq] at e
    subst e
    have hs2 := hsz
    rw [qd7, Bool.and_eq_true, is2_iff] at hs2
    refine ⟨?_, hsz, by simp only [Tm.size, Tm.sizeL]; omega, hko _ (by simp [Tm.ks])⟩
    rw [qd7, hs2.1, hs2.2]
    simp only [is2, decide_true, Bool.and_true]
    rw [← hs2.1]
   ·cases e
  | _ => simp only [Tm.k_mk] at hk; omega
 ·unfold qer at e; rw [if_neg hk] at e; cases e
theorem qmW {x : Sc} {t r : Tm} (h : Nd x t) (e : qfr t = some r) : Good x t r := by
 by_cases hk : t.k = 13
 ·have hsz := h.gd.sz (by omega) (by omega)
  have hok := h.ok
  have hko := hok.kids
  have hf := qbZ hok
  have hsc := h.sc
  cases h.sh with
  | cho a b =>
   have e : (if a.k = 14 then some b else if b.k = 14 then some a else none) = some r := e
   have hs2 := hsz
   rw [qd7, Bool.and_eq_true, is2_iff] at hs2
   have ha : szF x (.cho a b) = szF x a := by
    rw [qd7, hs2.1, hs2.2]
    simp only [is2, decide_true, Bool.and_true]
    rw [← hs2.1]
   split at e
   ·simp only [Option.some.injEq] at e
    subst e
    refine ⟨?_, hsz, by simp only [Tm.size, Tm.sizeL]; omega, hko _ (by simp [Tm.ks])⟩
    rw [ha, hs2.2, ← hs2.1]
   ·split at e
    ·simp only [Option.some.injEq] at e
     subst e
     exact ⟨ha, hsz, by simp only [Tm.size, Tm.sizeL]; omega, hko _ (by simp [Tm.ks])⟩
    ·cases e
  | _ => simp only [Tm.k_mk] at hk; omega
 ·unfold qfr at e; rw [if_neg hk] at e; cases e
theorem qk8 {x : Sc} {t r : Tm} (h : Nd x t) (e : qes x t = some r) : Good x t r := by
 by_cases hk : t.k = 18
 ·have hsz := h.gd.sz (by omega) (by omega)
  have hok := h.ok
  have hko := hok.kids
  have hf := qbZ hok
  have hsc := h.sc
  cases h.sh with
  | ntc n i u =>
   have e : (if !u.any (qjX x.top) 0 then some u else none) = some r := e
   split at e
   ·simp only [Option.some.injEq] at e
    subst e
    have hs2 := hsz
    rw [qd9, Bool.and_eq_true] at hs2
    refine ⟨?_, hsz, by simp only [Tm.size, Tm.sizeL]; omega, hko _ (by simp [Tm.ks])⟩
    rw [qd9, hs2.2, Bool.and_true]
   ·cases e
  | _ => simp only [Tm.k_mk] at hk; omega
 ·unfold qes at e; rw [if_neg hk] at e; cases e
theorem qqi {x : Sc} {t r : Tm} (h : Nd x t) (e : qp7 t = some r) : Good x t r := by
 by_cases hk : t.k = 8
 ·have hsz := h.gd.sz (by omega) (by omega)
  have hok := h.ok
  have hko := hok.kids
  have hf := qbZ hok
  have hsc := h.sc
  cases h.sh with
  | ite c a b =>
   have e : (if c.k = 8 then (match c.ks with | [p, q, r] => if qcr q 0 2 && qcr r 1 2 then some (.ite p b a) else none | _ => none) else none) = some r := e
   have hs2 := hsz
   rw [qcm, Bool.and_eq_true, Bool.and_eq_true, is2_iff] at hs2
   have oc := hko c (by simp [Tm.ks])
   split at e
   ·rename_i hk
    cases qdq hs2.2 with
    | ite p q r' =>
     have e : (if qcr q 0 2 && qcr r' 1 2 then some (.ite p b a) else none) = some r := e
     split at e
     ·simp only [Option.some.injEq] at e
      subst e
      have hc := hs2.2
      rw [qcm, Bool.and_eq_true] at hc
      refine ⟨?_, hsz, ?_, ok3_of (by decide) z64 z64 z64 (oc.kids p (by simp [Tm.ks])) (hko b (by simp [Tm.ks])) (hko a (by simp [Tm.ks]))⟩
      ·have hA : szF x a = ((szF x a).1, true) := by rw [← hs2.1.1]
       have hB := hs2.1.2
       rw [qcm x (.ite p q r') a b, qcm x p b a, hs2.2, hc.2, hB, hA]
      ·simp only [Tm.size, Tm.sizeL]; omega
     ·cases e
    | _ => simp only [Tm.k_mk] at hk; omega
   ·cases e
  | _ => simp only [Tm.k_mk] at hk; omega
 ·unfold qp7 at e; rw [if_neg hk] at e; cases e
theorem qoV {x : Sc} {t r : Tm} (h : Nd x t) (e : qiy t = some r) : Good x t r := by
 by_cases hk : t.k = 7
 ·have hsz := h.gd.sz (by omega) (by omega)
  have hok := h.ok
  have hko := hok.kids
  have hf := qbZ hok
  have hsc := h.sc
  cases h.sh with
  | seq a b =>
   have e : (if a.k = 7 then (match a.ks with | [p, q] => some (.seq p (.seq q b)) | _ => none) else none) = some r := e
   have hs2 := hsz
   rw [qbQ, Bool.and_eq_true, is2_iff] at hs2
   have oa := hko a (by simp [Tm.ks])
   split at e
   ·rename_i hk
    cases qdq (x := x) (t := a) (by rw [hs2.2]) with
    | seq p q =>
     have e : some (Tm.seq p (.seq q b)) = some r := e
     simp only [Option.some.injEq] at e
     subst e
     have hc := hs2.2
     rw [qbQ] at hc
     simp only [Prod.mk.injEq, Bool.and_eq_true] at hc
     refine ⟨?_, hsz, ?_, ok2_of (by decide) z64 z64 z64 (oa.kids p (by simp [Tm.ks])) (ok2_of (by decide) z64 z64 z64 (oa.kids q (by simp [Tm.ks])) (hko b (by simp [Tm.ks])))⟩
     ·have hp : szF x p = (1, true) := is2_iff.1 (by simp only [is2, Bool.and_eq_true]; exact hc.2.2)
      rw [qbQ x (.seq p q) b, hs2.2, qbQ x p, qbQ x q b, hp]
      simp only [is2, hc.1, hc.2.1, decide_true, Bool.and_true]
     ·simp only [Tm.size, Tm.sizeL]; omega
    | _ => simp only [Tm.k_mk] at hk; omega
   ·cases e
  | _ => simp only [Tm.k_mk] at hk; omega
 ·unfold qiy at e; rw [if_neg hk] at e; cases e
theorem qmX {x : Sc} {t r : Tm} (h : Nd x t) (e : qeN x t = some r) : Good x t r := by
 by_cases hk : t.k = 7
 ·have hsz := h.gd.sz (by omega) (by omega)
  have hok := h.ok
  have hko := hok.kids
  have hf := qbZ hok
  have hsc := h.sc
  cases h.sh with
  | seq p q =>
   have e : (if p.k = 4 then (match p.ks with | [u] => if decide (q.k = 3) && (decide (p.i = q.i) && (decide (x.top < p.i) && qaO u)) then some (.seq p u) else none | _ => none) else none) = some r := e
   have hs2 := hsz
   rw [qbQ, Bool.and_eq_true, is2_iff] at hs2
   have op := hko p (by simp [Tm.ks])
   split at e
   ·rename_i hk
    cases qdq (x := x) (t := p) (by rw [hs2.2]) with
    | put i u =>
     have e : (if decide (q.k = 3) && (decide (i = q.i) && (decide (x.top < i) && qaO u)) then some (.seq (.put i u) u) else none) = some r := e
     split at e
     ·rename_i hu
      simp only [Bool.and_eq_true, decide_eq_true_eq] at hu
      simp only [Option.some.injEq] at e
      subst e
      have hk := hu.1
      cases qdq hs2.1 with
      | get j =>
       have hij : i = j := hu.2.1
       subst hij
       have hc := hs2.2
       rw [qeJ] at hc
       simp only [Prod.mk.injEq, Bool.and_eq_true, true_and] at hc
       have hcu : szF x u = (((x.get i).getD .none).ty.res.n, true) := is2_iff.1 (by simp only [is2, Bool.and_eq_true]; exact hc.2)
       refine ⟨?_, hsz, ?_, ok2_of (by decide) z64 z64 z64 op (op.kids u (by simp [Tm.ks]))⟩
       ·rw [qbQ, qbQ, hs2.2, qhE, hcu, hc.1]
       ·simp only [Tm.size, Tm.sizeL]
        obtain ⟨n, m, rfl⟩ := qfa (qdq (x := x) (t := u) (by rw [hcu])) hu.2.2.2
        simp only [Tm.size, Tm.sizeL]; omega
      | _ => simp only [Tm.k_mk] at hk; omega
     ·cases e
    | _ => simp only [Tm.k_mk] at hk; omega
   ·cases e
  | _ => simp only [Tm.k_mk] at hk; omega
 ·unfold qeN at e; rw [if_neg hk] at e; cases e
end Go.AI.Tryz
namespace Go.AI.Tryz
abbrev up (x : Sc) : Sc := { x with size := x.size + 1 }
theorem qiE (g : Tm → Int → Tm) (lab : Bool) (l : Int) : ∀ (ks : List Tm) (j : Nat), (Tm.chgK g lab l j ks).length = ks.length
 | [], _ => by simp only [Tm.chgK]
 | u :: r, j => by simp only [Tm.chgK, List.length_cons, qiE g lab l r]
theorem qmd (g : Tm → Int → Tm) (lab : Bool) (l : Int) : ∀ (ks : List Tm) (j : Nat) (w : Tm), w ∈ Tm.chgK g lab l j ks → ∃ u ∈ ks, ∃ l', w = Tm.chg g u l' ∧ (l' = l ∨ l' = l + 1)
 | [], _, w, h => by simp only [Tm.chgK] at h; cases h
 | u :: r, j, w, h => by
  simp only [Tm.chgK] at h
  rcases List.mem_cons.1 h with rfl | h
  ·exact ⟨u, List.mem_cons_self .., _, rfl, by split <;> simp⟩
  ·obtain ⟨v, hv, l', e⟩ := qmd g lab l r (j + 1) w h
   exact ⟨v, List.mem_cons_of_mem _ hv, l', e⟩
theorem qk9 {is : Tm → Int → Bool} {lab : Bool} {l : Int} : ∀ {ks : List Tm} {j i : Nat} {w : Tm}, Tm.anyK is lab l j ks = false → ks[i]? = some w → Tm.any is w (if lab && decide (j + i = 0) then l + 1 else l) = false
 | [], _, i, w, _, h => by simp at h
 | u :: r, j, 0, w, h, hi => by
  simp only [Tm.anyK, Bool.or_eq_false_iff] at h
  simp only [List.getElem?_cons_zero, Option.some.injEq] at hi
  subst hi
  exact h.1
 | u :: r, j, i + 1, w, h, hi => by
  simp only [Tm.anyK, Bool.or_eq_false_iff] at h
  have := qk9 h.2 (show r[i]? = some w by simpa using hi)
  rw [show j + (i + 1) = j + 1 + i by omega]
  exact this
theorem LkK.chg {g : Tm → Int → Tm} {lab : Bool} {l : Int} {sx sy : Nat → Sc} : ∀ (ks : List Tm) (j : Nat), (∀ i w, ks[i]? = some w → Lk (sx (j + i)) w (sy (j + i)) (Tm.chg g w (if lab && decide (j + i = 0) then l + 1 else l))) → LkK sx sy j ks (Tm.chgK g lab l j ks)
 | [], _, _ => by simp only [Tm.chgK]; exact trivial
 | u :: r, j, h => by
  simp only [Tm.chgK]
  refine ⟨h 0 u rfl, LkK.chg r (j + 1) fun i w hi => ?_⟩
  have := h (i + 1) w (by simpa using hi)
  rw [show j + 1 + i = j + (i + 1) by omega]
  exact this
theorem qme (g : Tm → Int → Tm) : ∀ (d : Nat) (t : Tm) (l : Int), t.size ≤ d → (Tm.chg g t l).size = t.size
 | 0, t, _, h => by have := Tm.size_pos t; omega
 | d + 1, t, l, h => by
  have hk : ∀ (ks : List Tm) (lab : Bool) (j : Nat), (∀ w ∈ ks, w.size ≤ d) → Tm.sizeL (Tm.chgK g lab l j ks) = Tm.sizeL ks := by
   intro ks
   induction ks with
   | nil => intro lab j _; simp only [Tm.chgK]
   | cons u r ih =>
    intro lab j hs
    simp only [Tm.chgK, Tm.sizeL]
    rw [qme g d u _ (hs u (List.mem_cons_self ..)), ih lab (j + 1) fun w hw => hs w (List.mem_cons_of_mem _ hw)]
  have h1 := Tm.size_ks t
  have h2 := Tm.size_ks (Tm.chg g t l)
  have h3 : (Tm.chg g t l).ks = Tm.chgK g (decide (t.k = 11)) l 0 t.ks := by rw [Tm.chg_eq]; rfl
  rw [h3, hk t.ks _ 0 fun w hw => by have := qa4 hw; omega] at h2
  omega
theorem qqW : ∀ (d : Nat) (t : Tm) (l : Int), t.size ≤ d → 0 ≤ l → t.Ok → (Tm.chg qc1 t l).Ok
 | 0, t, _, h, _, _ => by have := Tm.size_pos t; omega
 | d + 1, t, l, h, hl, hok => by
  have hf := qbZ hok
  rw [Tm.chg_eq]
  have hn : -9223372036854775808 ≤ (qc1 t l).n ∧ (qc1 t l).n ≤ 9223372036854775807 := by
   unfold qc1
   split
   ·simp only [Tm.n_mk]; omega
   ·exact hf.2.1
  have hm : (qc1 t l).m = t.m := by unfold qc1; split <;> rfl
  have hi : (qc1 t l).i = t.i := by unfold qc1; split <;> rfl
  refine .mk ?_ hn ?_ ?_ ?_ ?_
  ·rw [(qgG t l).2]; exact hf.1
  ·rw [hm]; exact hf.2.2.1
  ·rw [hi]; exact hf.2.2.2
  ·rw [qiE]; exact hok.len
  ·intro w hw
   obtain ⟨u, hu, l', rfl, hl'⟩ := qmd _ _ _ _ _ _ hw
   exact qqW d u l' (by have := qa4 hu; omega) (by omega) (hok.kids u hu)
theorem qtR {x : Sc} {t t' : Tm} (hk : t'.k = t.k) (hn : t.k ≠ 12 → t'.n = t.n) (h17 : t.k = 17 → (szF (up x) (t.ks.headD .z)).1 = (szF x (t'.ks.headD .z)).1) (j : Nat) : (up x).kid t j = up (x.kid t' j) ∧ (x.kid t' j).size = if decide (t.k = 11) && decide (j = 0) then x.size + 1 else x.size := by
 unfold Sc.kid
 rw [hk]
 by_cases h10 : t.k = 10
 ·have h11 : ¬ t.k = 11 := by omega
  rw [if_pos h10, if_pos h10, hn (by omega)]
  exact ⟨rfl, by simp only [h11, decide_false, Bool.false_and, Bool.false_eq_true, if_false]; rfl⟩
 ·rw [if_neg h10, if_neg h10]
  by_cases h17' : t.k = 17 ∧ j = 1
  ·have h11 : ¬ t.k = 11 := by omega
   rw [if_pos h17', if_pos h17', h17 h17'.1]
   exact ⟨rfl, by simp only [h11, decide_false, Bool.false_and, Bool.false_eq_true, if_false]; rfl⟩
  ·rw [if_neg h17', if_neg h17']
   by_cases h11 : t.k = 11 ∧ j = 0
   ·rw [if_pos h11, if_pos h11]
    exact ⟨rfl, by simp only [h11.1, h11.2, decide_true, Bool.and_self, if_true]⟩
   ·rw [if_neg h11, if_neg h11]
    refine ⟨rfl, ?_⟩
    rw [if_neg (by simpa using h11)]
theorem qqX : ∀ (d : Nat) (t : Tm) (x : Sc) (l : Int), t.size ≤ d → Nd (up x) t → t.any qfs l = false → 0 ≤ l → l ≤ x.size → Lk (up x) t x (Tm.chg qc1 t l)
 | 0, t, _, _, h, _, _, _, _ => by have := Tm.size_pos t; omega
 | d + 1, t, x, l, hd, hn, ha, hl, hlx => by
  rw [Tm.any_eq, Bool.or_eq_false_iff] at ha
  have hk' : (Tm.chg qc1 t l).k = t.k := by rw [Tm.chg_eq]; exact (qgG t l).2
  have hks' : (Tm.chg qc1 t l).ks = Tm.chgK qc1 (decide (t.k = 11)) l 0 t.ks := by rw [Tm.chg_eq]; rfl
  have hn' : t.k ≠ 12 → (Tm.chg qc1 t l).n = t.n := fun h => by
   rw [Tm.chg_eq]
   show (qc1 t l).n = _
   unfold qc1
   rw [if_neg (fun h' => h h'.1)]
  have hm' : (Tm.chg qc1 t l).m = t.m := by rw [Tm.chg_eq]; show (qc1 t l).m = _; unfold qc1; split <;> rfl
  have hi' : (Tm.chg qc1 t l).i = t.i := by rw [Tm.chg_eq]; show (qc1 t l).i = _; unfold qc1; split <;> rfl
  have IH : ∀ i w, t.ks[i]? = some w → ∀ z, (up x).kid t i = up z → z.size = (if decide (t.k = 11) && decide (i = 0) then x.size + 1 else x.size) → Lk ((up x).kid t i) w z (Tm.chg qc1 w (if decide (t.k = 11) && decide (i = 0) then l + 1 else l)) := by
   intro i w hi z hz hzs
   have h1 := hn.kid hi
   have h2 := qk9 ha.2 hi
   rw [Nat.zero_add] at h2
   rw [hz] at h1 ⊢
   refine qqX d w z _ (by have := qa4 (List.mem_of_getElem? hi); omega) h1 h2 ?_ ?_
   ·split <;> omega
   ·rw [hzs]; split <;> omega
  have h17 : t.k = 17 → (szF (up x) (t.ks.headD .z)).1 = (szF x ((Tm.chg qc1 t l).ks.headD .z)).1 := fun h17 => by
   rw [hks']
   have h11 : ¬ t.k = 11 := by omega
   cases hks : t.ks with
   | nil =>
    have := hn.sh
    cases this <;> simp [Tm.k, Tm.ks] at h17 hks
   | cons u r =>
    have := IH 0 u (by rw [hks]; rfl) x (qgO h17) (by simp only [h11, decide_false, Bool.false_and, Bool.false_eq_true, if_false])
    rw [qgO h17] at this
    simp only [h11, decide_false, Bool.false_and, Bool.false_eq_true, if_false] at this
    simp only [Tm.chgK, List.headD_cons, h11, decide_false, Bool.false_and, Bool.false_eq_true, if_false]
    rw [this.1]
  have hku := fun j => qtR (x := x) hk' hn' h17 j
  refine Lk.node hn.sh ?_ hk' hm' hn' ?_ ?_ ?_ ?_
  ·refine qon ?_
   have h1 := qcD hn.sh
   by_cases h12 : t.k = 12
   ·cases hn.sh with
    | jmp n =>
     rw [Tm.chg_eq]
     have : (qc1 (.jmp n) l).k = 12 ∧ (qc1 (.jmp n) l).m = 0 ∧ (qc1 (.jmp n) l).i = 0 := by unfold qc1; split <;> exact ⟨rfl, rfl, rfl⟩
     rw [this.1, this.2.1, this.2.2]
     exact qcD (.jmp _)
    | _ => simp only [Tm.k_mk] at h12; omega
   ·have e : Tm.chg qc1 t l = t.with (Tm.chgK qc1 (decide (t.k = 11)) l 0 t.ks) := by
     rw [Tm.chg_eq]
     unfold qc1
     rw [if_neg (fun h' => h12 h'.1)]
     rfl
    rw [e]
    exact qcD (qk6 hn.sh (qiE ..))
  ·intro h12
   have hle : qfs t l = false := ha.1
   simp only [qfs, h12, decide_true, Bool.true_and, decide_eq_false_iff_not] at hle
   rw [Tm.chg_eq]
   show qbw t.n (x.size + 1) = qbw (qc1 t l).n x.size
   unfold qc1
   rw [Bool.eq_iff_iff, isBelow_iff, isBelow_iff]
   split
   ·rename_i h; simp only [Tm.n_mk]; omega
   ·rename_i h
    have : ¬ l < t.n := fun h' => h ⟨h12, h'⟩
    omega
  ·rw [hi']; rfl
  ·intro _; rw [hi']
  ·rw [hks']
   refine LkK.chg t.ks 0 fun i w hi => ?_
   rw [Nat.zero_add]
   exact IH i w hi _ (hku i).1 (hku i).2
theorem qmY {x : Sc} {t r : Tm} (h : Nd x t) (e : qgI t = some r) : Good x t r := by
 by_cases hk : t.k = 11
 ·have hsz := h.gd.sz (by omega) (by omega)
  have hok := h.ok
  have hko := hok.kids
  have hB := h.b
  cases hs : h.sh with
  | lbl u w =>
   have e : (if !qjW u then some (Tm.unl u) else none) = some r := e
   split at e
   ·rename_i hu
    simp only [Option.some.injEq] at e
    subst e
    have hs2 := hsz
    rw [qd6, Bool.and_eq_true, is2_iff] at hs2
    have hnu : Nd (up x) u := h.kid (t := .lbl u w) (u := u) (j := 0) rfl
    have htr := qqX u.size u x 0 (Nat.le_refl _) hnu (by simpa [qjW] using hu) (by decide) hB.2.1
    refine ⟨?_, hsz, ?_, qqW u.size u 0 (Nat.le_refl _) (by decide) (hko u (by simp [Tm.ks]))⟩
    ·show _ = szF x (Tm.chg qc1 u 0)
     rw [qd6, hs2.1, hs2.2, ← htr.1]
     simp only [is2, decide_true, Bool.and_true]
     rw [← hs2.1]
    ·show (Tm.chg qc1 u 0).size ≤ _
     rw [qme qc1 u.size u 0 (Nat.le_refl _)]
     simp only [Tm.size, Tm.sizeL]; omega
   ·cases e
  | _ => simp only [Tm.k_mk] at hk; omega
 ·unfold qgI at e; rw [if_neg hk] at e; cases e
end Go.AI.Tryz
namespace Go.AI.Tryz
structure Rm (N id : Int) (X Y : Sc) : Prop where
 ex : ∃ A B, X.ids = A ++ (⟨⟨[], ⟨true, N⟩⟩, false⟩ : Se) :: B ∧ Y.ids = A ++ B ∧ id = Int.ofNat A.length + 1
 top : Y.top = X.top
 size : Y.size = X.size
 lt : X.top < id
abbrev sh1 (id i : Int) : Int := if id < i then i - 1 else i
theorem Rm.pos {N id : Int} {X Y : Sc} (h : Rm N id X Y) : 1 ≤ id := by
 obtain ⟨A, B, _, _, e⟩ := h.ex
 have : (0 : Int) ≤ Int.ofNat A.length := Int.natCast_nonneg _
 omega
theorem Rm.get {N id : Int} {X Y : Sc} (h : Rm N id X Y) {i : Int} (hi : i ≠ id) : X.get i = Y.get (sh1 id i) := by
 obtain ⟨A, B, hX, hY, he⟩ := h.ex
 have hp := h.pos
 simp only [Int.ofNat_eq_natCast] at he
 unfold Sc.get sh1
 by_cases h1 : i < 1
 ·rw [if_pos h1, if_neg (show ¬ id < i by omega), if_pos h1]
 ·by_cases h2 : id < i
  ·rw [if_neg h1, if_pos h2, if_neg (by omega), hX, hY]
   have e1 : (i - 1).toNat = A.length + ((i - 1 - 1).toNat - A.length) + 1 := by omega
   rw [List.getElem?_append_right (by omega), List.getElem?_append_right (by omega)]
   rw [show (i - 1).toNat - A.length = ((i - 1 - 1).toNat - A.length) + 1 by omega, List.getElem?_cons_succ]
  ·rw [if_neg h1, if_neg h2, if_neg h1, hX, hY]
   rw [List.getElem?_append_left (by omega), List.getElem?_append_left (by omega)]
theorem Rm.at {N id : Int} {X Y : Sc} (h : Rm N id X Y) : X.get id = some ⟨⟨[], ⟨true, N⟩⟩, false⟩ := by
 obtain ⟨A, B, hX, hY, he⟩ := h.ex
 simp only [Int.ofNat_eq_natCast] at he
 unfold Sc.get
 rw [if_neg (by omega), hX, show (id - 1).toNat = A.length by omega]
 rw [List.getElem?_append_right (Nat.le_refl _), Nat.sub_self]; rfl
theorem Rm.with {N id : Int} {X Y : Sc} (h : Rm N id X Y) (y : Se) : Rm N id (X.with y) (Y.with y) := by
 obtain ⟨A, B, hX, hY, he⟩ := h.ex
 exact ⟨⟨A, B ++ [y], by simp only [Sc.with, hX, List.append_assoc, List.cons_append], by simp only [Sc.with, hY, List.append_assoc], he⟩, h.top, h.size, h.lt⟩
theorem Rm.up {N id : Int} {X Y : Sc} (h : Rm N id X Y) : Rm N id (up X) (up Y) := ⟨h.ex, h.top, by show Y.size + 1 = X.size + 1; rw [h.size], h.lt⟩
theorem Rm.kid {N id : Int} {X Y : Sc} (h : Rm N id X Y) {t t' : Tm} (hk : t'.k = t.k) (hn : t'.n = t.n) (h17 : t.k = 17 → (szF X (t.ks.headD .z)).1 = (szF Y (t'.ks.headD .z)).1) (j : Nat) : Rm N id (X.kid t j) (Y.kid t' j) := by
 unfold Sc.kid
 rw [hk, hn]
 by_cases h10 : t.k = 10
 ·rw [if_pos h10, if_pos h10]; exact h.with _
 ·rw [if_neg h10, if_neg h10]
  by_cases h17' : t.k = 17 ∧ j = 1
  ·rw [if_pos h17', if_pos h17', h17 h17'.1]; exact h.with _
  ·rw [if_neg h17', if_neg h17']
   by_cases h11 : t.k = 11 ∧ j = 0
   ·rw [if_pos h11, if_pos h11]; exact h.up
   ·rw [if_neg h11, if_neg h11]; exact h
theorem qvo {t : Tm} (h : Sh t) {i : Int} {ks : List Tm} (hi : t.i = 0 → i = 0) (hl : ks.length = t.ks.length) : Sh (.mk t.k t.n t.m i ks) := by
 have h1 := qcD h
 refine qon ?_
 obtain ⟨k, n, m, i0, l⟩ := t
 simp only [Tm.ks, Tm.i] at hl hi
 have h1 : (match qcl formL k with | none => false | some f => (((f.n || decide (n = 0)) && (f.m || decide (m = 0))) && (f.i || decide (i0 = 0))) && (decide (f.k < 0) || decide (f.k = Int.ofNat l.length))) = true := h1
 show (match qcl formL k with | none => false | some f => (((f.n || decide (n = 0)) && (f.m || decide (m = 0))) && (f.i || decide (i = 0))) && (decide (f.k < 0) || decide (f.k = Int.ofNat ks.length))) = true
 cases hf : qcl formL k with
 | none => rw [hf] at h1; cases h1
 | some f =>
  rw [hf] at h1
  simp only [Bool.and_eq_true, Bool.or_eq_true, decide_eq_true_eq, hl] at h1 ⊢
  refine ⟨⟨h1.1.1, ?_⟩, h1.2⟩
  rcases h1.1.2 with h | h
  ·exact .inl h
  ·exact .inr (hi h)
theorem qoW (id : Int) (val : Tm) : ∀ ks : List Tm, (woL id val ks).length = ks.length
 | [] => rfl
 | u :: r => by simp only [woL, List.length_cons, qoW id val r]
theorem qoX (id : Int) (val : Tm) : ∀ (ks : List Tm) (w : Tm), w ∈ woL id val ks → ∃ u ∈ ks, w = woF id val u
 | [], w, h => by simp only [woL] at h; cases h
 | u :: r, w, h => by
  simp only [woL] at h
  rcases List.mem_cons.1 h with rfl | h
  ·exact ⟨u, List.mem_cons_self .., rfl⟩
  ·obtain ⟨v, hv, e⟩ := qoX id val r w h
   exact ⟨v, List.mem_cons_of_mem _ hv, e⟩
theorem LkK.wo {id : Int} {val : Tm} {sx sy : Nat → Sc} : ∀ (ks : List Tm) (j : Nat), (∀ i w, ks[i]? = some w → Lk (sx (j + i)) w (sy (j + i)) (woF id val w)) → LkK sx sy j ks (woL id val ks)
 | [], _, _ => by simp only [woL]; exact trivial
 | u :: r, j, h => by
  simp only [woL]
  refine ⟨h 0 u rfl, LkK.wo r (j + 1) fun i w hi => ?_⟩
  have := h (i + 1) w (by simpa using hi)
  rw [show j + 1 + i = j + (i + 1) by omega]
  exact this
structure WoOk (X Y : Sc) (t r : Tm) : Prop where
 tr : Lk X t Y r
 size : r.size ≤ t.size
 ok : r.Ok
theorem qtS {N id : Int} {val : Tm} (hv : ∀ Y, szF Y val = (N, true)) (hvs : val.size = 1) (hvo : val.Ok) : ∀ (d : Nat) (t : Tm) (X Y : Sc) (l : Int), t.size ≤ d → Rm N id X Y → Nd X t → t.any (isH id) l = false → WoOk X Y t (woF id val t)
 | 0, t, _, _, _, h, _, _, _ => by have := Tm.size_pos t; omega
 | d + 1, t, X, Y, l, hd, hr, hn, ha => by
  rw [Tm.any_eq, Bool.or_eq_false_iff] at ha
  have hp := hr.pos
  have hsz := hn.gd.sz
  have IH : ∀ i w, t.ks[i]? = some w → ∀ Z, Rm N id (X.kid t i) Z → WoOk (X.kid t i) Z w (woF id val w) := fun i w hi Z hz =>
   qtS hv hvs hvo d w _ Z _ (by have := qa4 (List.mem_of_getElem? hi); omega) hz (hn.kid hi) (qk9 ha.2 hi)
  have hf := qbZ hn.ok
  rw [qtD]
  by_cases hi : t.i = id
  ·rw [if_pos hi]
   have hko := hn.ok.kids
   cases hs : hn.sh with
   | get i =>
    have hi : i = id := hi
    subst hi
    rw [if_pos (show (Tm.get i).k = 3 from rfl)]
    have h1 : szF X (.get i) = (N, true) := by rw [qhE, hr.at]; rfl
    exact ⟨Lk.of_ok (by rw [h1, hv]) (by rw [h1]), by rw [hvs]; exact Tm.size_pos _, hvo⟩
   | put i u =>
    have hi : i = id := hi
    subst hi
    have hz := hsz (by simp [Tm.k]) (by simp [Tm.k])
    obtain ⟨h1, h2, h3⟩ := IH 0 u rfl Y hr
    have h1 : szF X u = szF Y (woF i val u) := h1.1
    have hz2 := hz
    rw [qeJ, hr.at, Bool.and_eq_true] at hz2
    have hu : szF X u = (N, true) := is2_iff.1 hz2.2
    rw [if_neg (by simp [Tm.k]), if_pos (show (Tm.put i u).k = 4 from rfl)]
    show WoOk X Y (.put i u) (.az 1 (woF i val u))
    refine ⟨Lk.of_ok ?_ hz, by simp only [Tm.size, Tm.sizeL]; omega, ok1_of (by decide) o64 z64 z64 h3⟩
    rw [qeJ, hr.at, qeL, ← h1, hu]
    simp only [is2, Option.getD_some, decide_true, Bool.and_true, Bool.true_and, Option.any_some]
    rfl
   | ntc n i u =>
    have hi : i = id := hi
    subst hi
    have hz := hsz (by simp [Tm.k]) (by simp [Tm.k])
    obtain ⟨h1, h2, h3⟩ := IH 0 u rfl Y hr
    have h1 : szF X u = szF Y (woF i val u) := h1.1
    have hz2 := hz
    rw [qd9, Bool.and_eq_true] at hz2
    rw [if_neg (by simp [Tm.k]), if_neg (by simp [Tm.k]), if_pos (show (Tm.ntc n i u).k = 18 from rfl)]
    show WoOk X Y (.ntc n i u) (woF i val u)
    refine ⟨Lk.of_ok ?_ hz, by simp only [Tm.size, Tm.sizeL]; omega, h3⟩
    rw [qd9, ← h1, hz2.2, Bool.and_true]
   | use i ks =>
    have hi : i = id := hi
    subst hi
    have hz := hsz (by simp [Tm.k]) (by simp [Tm.k])
    rw [qgD, hr.at] at hz
    simp only [Option.getD_some, Bool.not_true, Bool.false_and, Bool.and_false] at hz
    cases hz
   | val i =>
    have hi : i = id := hi
    subst hi
    have hz := hsz (by simp [Tm.k]) (by simp [Tm.k])
    rw [qhF, hr.at] at hz
    simp only [Option.getD_some, Bool.and_false] at hz
    cases hz
   | cel i =>
    have hi : i = id := hi
    subst hi
    have := ha.1
    simp only [isH, Tm.i_mk, Tm.k_mk, decide_true, Bool.and_self] at this
    cases this
   | _ => exfalso; simp only [Tm.i_mk] at hi; omega
  ·rw [if_neg hi]
   have h17 : t.k = 17 → (szF X (t.ks.headD .z)).1 = (szF Y ((woL id val t.ks).headD .z)).1 := fun h17 => by
    cases hks : t.ks with
    | nil =>
     have := hn.sh
     cases this <;> simp [Tm.k, Tm.ks] at h17 hks
    | cons u r =>
     have := (IH 0 u (by rw [hks]; rfl) Y (by rw [qgO h17]; exact hr)).tr
     rw [qgO h17] at this
     simp only [woL, List.headD_cons]
     rw [this.1]
   have hkid : ∀ j, Rm N id (X.kid t j) (Y.kid (.mk t.k t.n t.m (sh1 id t.i) (woL id val t.ks)) j) := fun j => hr.kid (t := t) (t' := .mk t.k t.n t.m (sh1 id t.i) (woL id val t.ks)) rfl rfl h17 j
   have hl : (woL id val t.ks).length = t.ks.length := qoW ..
   refine ⟨?_, ?_, ?_⟩
   ·refine Lk.node hn.sh (qvo hn.sh (fun h0 => ?_) hl) rfl rfl (fun _ => rfl) (fun h12 => ?_) (hr.get hi) (fun _ => ?_) (LkK.wo t.ks 0 fun i w hi => ?_)
    ·rw [h0, if_neg (by omega)]
    ·rw [hr.size]; rfl
    ·have := hr.lt
     show decide (X.top < t.i) = decide (Y.top < sh1 id t.i)
     rw [hr.top, decide_eq_decide]
     unfold sh1
     split <;> omega
    ·rw [Nat.zero_add]
     exact (IH i w hi _ (hkid i)).tr
   ·have hK : ∀ (ks : List Tm), (∀ w ∈ ks, (woF id val w).size ≤ w.size) → Tm.sizeL (woL id val ks) ≤ Tm.sizeL ks := by
     intro ks
     induction ks with
     | nil => intro _; exact Nat.le_refl _
     | cons u r ih =>
      intro h
      have h1 := h u (List.mem_cons_self ..)
      have h2 := ih fun w hw => h w (List.mem_cons_of_mem _ hw)
      simp only [woL, Tm.sizeL]; omega
    have h1 := Tm.size_ks t
    have h2 := Tm.size_ks (.mk t.k t.n t.m (if id < t.i then t.i - 1 else t.i) (woL id val t.ks))
    have h3 := hK t.ks fun w hw => by
     obtain ⟨i, hi⟩ := List.getElem?_of_mem hw
     exact (IH i w hi _ (hkid i)).size
    simp only [Tm.ks_mk] at h2
    omega
   ·refine .mk hf.1 hf.2.1 hf.2.2.1 ?_ (by rw [hl]; exact hn.ok.len) fun w hw => ?_
    ·split <;> omega
    ·obtain ⟨u, hu, rfl⟩ := qoX _ _ _ _ hw
     obtain ⟨i, hi⟩ := List.getElem?_of_mem hu
     exact (IH i u hi _ (hkid i)).ok
theorem qgP {x : Sc} {t r : Tm} {ok : Nm → Bool} (hk : ∀ y, ok y = true → y.h = false) (ht : x.top ≤ Int.ofNat x.ids.length) (h : Nd x t) (e : clR x ok (ini t) t = some r) : Good x t r := by
 by_cases hk10 : t.k = 10
 ·have hsz := h.gd.sz (by omega) (by omega)
  have hok := h.ok
  have hf := qbZ hok
  have hnu := fun u hu => h.kid (u := u) (j := 0) hu
  cases hs : h.sh with
  | new n m u =>
   have e : (if ok (qft (cid x) u) then some (woF (cid x) (ini (.new n m u)) u) else none) = some r := e
   split at e
   ·rename_i hu
    simp only [Option.some.injEq] at e
    subst e
    have hs2 := hsz
    rw [qeM, Bool.and_eq_true, Bool.and_eq_true, isSize_iff, isBelow_iff] at hs2
    have hv : ∀ Y, szF Y (ini (.new n m u)) = (n, true) := fun Y => by
     show szF Y (.num m n) = _
     rw [qdx, isSize_iff.2 hs2.2.1, isBelow_iff.2 hs2.2.2]; rfl
    have hR : Rm n (cid x) (x.with ⟨⟨[], ⟨true, n⟩⟩, false⟩) x := ⟨⟨x.ids, [], rfl, (List.append_nil _).symm, rfl⟩, rfl, rfl, by show x.top < Int.ofNat x.ids.length + 1; omega⟩
    obtain ⟨h1, h2, h3⟩ := qtS hv rfl (qhJ (show 0 ≤ m ∧ m ≤ 64 by omega) (show 0 ≤ n ∧ n ≤ 64 by omega)) u.size u _ x 0 (Nat.le_refl _) hR (hnu u rfl) (hk _ hu)
    refine ⟨?_, hsz, by simp only [Tm.size, Tm.sizeL]; omega, h3⟩
    rw [qeM, ← h1.1, hs2.1, isSize_iff.2 hs2.2.1, isBelow_iff.2 hs2.2.2]
    exact Prod.ext rfl hs2.1.symm
   ·cases e
  | _ => simp only [Tm.k_mk] at hk10; omega
 ·unfold clR at e; rw [if_neg hk10] at e; cases e
theorem keep {x : Sc} {t r : Tm} {i : Nat} (h : Nd x t) (ht : x.top ≤ Int.ofNat x.ids.length) (hi : i < 22) (e : qbG i x t = some r) : Good x t r := by
 match i, hi with
 | 0, _ => exact qsg h e
 | 1, _ => exact qsh h e
 | 2, _ => exact qoO h e
 | 3, _ => exact qj1 h e
 | 4, _ => exact qoP h e
 | 5, _ => exact qsi h e
 | 6, _ => exact qoQ h e
 | 7, _ => exact qqi h e
 | 8, _ => exact qoR h e
 | 9, _ => exact qoS h e
 | 10, _ => exact qoV h e
 | 11, _ => exact qoT h e
 | 12, _ => exact qmV h e
 | 13, _ => exact qgP (fun y hy => by simp only [okU, Bool.and_eq_true, Bool.not_eq_true'] at hy; exact hy.2.2) ht h e
 | 14, _ => exact qgP (fun y hy => by simp only [qr5, Bool.and_eq_true, Bool.not_eq_true'] at hy; exact hy.2.2) ht h e
 | 15, _ => exact qgP (fun y hy => by simp only [qr6, Bool.and_eq_true, Bool.not_eq_true'] at hy; exact hy.2.2) ht h e
 | 16, _ => exact qmX h e
 | 17, _ => exact qmY h e
 | 18, _ => exact qoU h e
 | 19, _ => exact qk8 h e
 | 20, _ => exact qk7 h e
 | 21, _ => exact qmW h e
 | _ + 22, h => exact absurd h (by omega)
end Go.AI.Tryz
namespace Go.AI
def qdB (u : Tm) (a : Int) (t : Tm) : Tm := if 0 ≤ a ∧ a < t.size then Tm.put1 u a.toNat t else t
mutual
theorem qj2 (u : Tm) : ∀ (t : Tm) (j : Nat), (Tm.put1 u j t).size ≤ t.size + u.size
 | t, 0 => by cases t; rw [Tm.put1]; omega
 | .mk k n m i ks, j + 1 => by
  have := qj3 u ks j
  simp only [Tm.put1, Tm.size]; omega
theorem qj3 (u : Tm) : ∀ (ks : List Tm) (j : Nat), Tm.sizeL (Tm.putL u j ks) ≤ Tm.sizeL ks + u.size
 | [], j => by cases j <;> simp only [Tm.putL] <;> omega
 | k :: r, j => by
  have h1 := qj2 u k j
  have h2 := qj3 u r (j - k.size)
  simp only [Tm.putL]
  split <;> simp only [Tm.sizeL] <;> omega
end
theorem qoY (u : Tm) (a : Int) (t : Tm) : (qdB u a t).size ≤ t.size + u.size := by
 unfold qdB
 split
 ·exact qj2 u t _
 ·omega
def qhK : Int × Int × Tm → Tm → Int → (Int × Int × Tm) × (Tm × Bool) := fun c t l => (((qdh c.2.1 c.2.2 c.1 t l).1, c.2), (qdh c.2.1 c.2.2 c.1 t l).2)
theorem qmf (a : Int) (u : Tm) : ∀ (d : Nat) (c : Int) (t : Tm) (l : Int), qcz qhK d (c, a, u) t l = (((qcz (qdh a u) d c t l).1, a, u), (qcz (qdh a u) d c t l).2)
 | 0, c, t, l => rfl
 | d + 1, c, t, l => by
  have hk : ∀ (lab : Bool) (ks : List Tm) (j : Nat) (c : Int), qeU (qcz qhK d) lab l j (c, a, u) ks = (((qeU (qcz (qdh a u) d) lab l j c ks).1, a, u), (qeU (qcz (qdh a u) d) lab l j c ks).2) := by
   intro lab ks
   induction ks with
   | nil => intro j c; rfl
   | cons w r ih =>
    intro j c
    simp only [qeU, qmf a u d, ih]
  simp only [qcz, qhK, hk]
  split <;> rfl
theorem qmg (a : Int) (ha : a < 0) (u : Tm) : ∀ (d c : Nat) (t : Tm) (l : Int), t.size ≤ d → c + t.size ≤ 1000000000 → qcz (qdh a u) d (.ofNat c) t l = (.ofNat (c + t.size), t)
 | 0, c, t, l, h, _ => by have := Tm.size_pos t; omega
 | d + 1, c, t, l, h, hc => by
  have hk : ∀ (lab : Bool) (ks : List Tm) (j c : Nat), (∀ u ∈ ks, u.size ≤ d) → c + Tm.sizeL ks ≤ 1000000000 → qeU (qcz (qdh a u) d) lab l j (.ofNat c) ks = (.ofNat (c + Tm.sizeL ks), ks) := by
   intro lab ks
   induction ks with
   | nil => intro j c _ _; rfl
   | cons w r ih =>
    intro j c hu hc
    simp only [Tm.sizeL] at hc
    have h1 := qmg a ha u d c w (if lab && decide (j = 0) then l + 1 else l) (hu w (List.mem_cons_self ..)) (by omega)
    have ih := ih (j + 1) (c + w.size) (fun v hv => hu v (List.mem_cons_of_mem _ hv)) (by omega)
    simp only [qeU, h1, ih, Tm.sizeL]
    rw [show c + w.size + Tm.sizeL r = c + (w.size + Tm.sizeL r) by omega]
  have hsz := Tm.size_ks t
  unfold qcz
  rw [ql8 (by omega), if_neg (show ¬ Int.ofNat c = a from fun h => by rw [← h] at ha; simp only [Int.ofNat_eq_natCast] at ha; omega)]
  simp only [if_true]
  rw [hk _ t.ks 0 (c + 1) (fun v hv => by have := Tm.sizeL_mem hv; omega) (by omega), Tm.with_ks, show c + 1 + Tm.sizeL t.ks = c + t.size by omega]
theorem qoZ (a : Int) (u t : Tm) (hs : t.size ≤ 100000) : (qcz (qdh a u) t.size 0 t 0).2 = qdB u a t := by
 unfold qdB
 by_cases h0 : 0 ≤ a
 ·obtain ⟨b, rfl⟩ : ∃ b : Nat, a = Int.ofNat b := ⟨a.toNat, by simp only [Int.ofNat_eq_natCast]; omega⟩
  have hp := ql9 b u t.size 0 t 0 (Nat.le_refl _) (by omega)
  by_cases hb : b < t.size
  ·rw [PutR.inn (by omega)] at hp
   obtain ⟨c', e, _⟩ := hp
   have e : qcz (qdh (.ofNat b) u) t.size 0 t 0 = _ := e
   rw [e, if_pos (by simp only [Int.ofNat_eq_natCast]; omega)]
   rfl
  ·rw [PutR.out (by omega)] at hp
   have hp : qcz (qdh (.ofNat b) u) t.size 0 t 0 = _ := hp
   rw [hp, if_neg (by simp only [Int.ofNat_eq_natCast]; omega)]
 ·rw [if_neg (by omega)]
  have e : qcz (qdh a u) t.size 0 t 0 = _ := qmg a (by omega) u t.size 0 t 0 (Nat.le_refl _) (by omega)
  rw [e]
end Go.AI
namespace Go.AI.Tryz
def RP2 (q : Nat × qaJ) (c : Int × Int × Tm) (E : qaJ) (s : ASt) : Prop := RP c.2.1 c.2.2 q c.1 E s
theorem qtT (d : Nat) : Ev fun n => ∀ q, ByC (RP2 q) qhK (.func 115 [] [.ptr (q.1 + 2) 0, .ptr q.1 0, .ptr (q.1 + 1) 0]) (fun _ => True) n d := by
 refine Ev.succ ((Ev.ge 1).mono fun n hn q c E s t l h1 h2 h3 h4 hr => ?_)
 obtain ⟨c, a, u⟩ := c
 obtain ⟨N, H0⟩ := q
 unfold RP2 RP at hr
 simp only at hr
 rw [qg7 CP (by omega), qbL]
 simp only [List.nil_append, List.cons_append]
 let s2 : ASt := { s with heap := (N + 2, .cells [i64 (qa8 .i64 (c + 1))]) :: (N + 1, .cells u.c) :: (N, .cells [i64 a]) :: H0 }
 refine ⟨s2, ?_, rfl, TF.refl s⟩
 refine qe4 (cf := cf115) (np := 5) (args' := [t.v, i64 l, .ptr (N + 2) 0, .ptr N 0, .ptr (N + 1) 0]) (by kernel_rfl) (by kernel_rfl) rfl (by simp only [List.all_cons, qan]; rfl) (by simp only [List.map_cons, qao]; rfl) ((s115_eq _ _ _ _ _ _ _ _).trans (?_ : _ = some (.tuple [(qdh a u c t l).2.1.v, bl (qdh a u c t l).2.2], s2))) (qcX _ _) (by rw [Tm.v_eq]; rfl)
 have hst : stH s (.ptr (N + 2) 0) [i64 (qa8 .i64 (c + 1))] = some s2 := qux hr rfl rfl
 have c1 : qaj (qae CP n E).E s (N + 2) = some [i64 c] := qaT hr
 have c2 : qaj (qae CP n E).E s2 (N + 2) = some [i64 (qa8 .i64 (c + 1))] := qaT rfl
 have c3 : qaj (qae CP n E).E s2 (N + 1) = some u.c := by rw [qa0 (s := s2) rfl (by omega)]; exact qaT rfl
 have c4 : qaj (qae CP n E).E s2 N = some [i64 a] := by rw [qa0 (s := s2) rfl (by omega), qa0 rfl (by omega)]; exact qaT rfl
 unfold s115 qdh
 by_cases ha : qa8 .i64 (qa8 .i64 (c + 1) - 1) = a
 ·simp only [ldP c1, ldP c2, ldP c3, ldP c4, qb4, qbh, hst, ha, if_true, qal, qaW, qaC, qag, qaq, qaH, qbP, decide_true, qaa, cond_true, Option.map_some, Option.bind_some]
 ·simp only [ldP c1, ldP c2, ldP c3, ldP c4, qb4, qbh, hst, ha, if_false, qal, qaW, qaC, qag, qaq, qaH, qbP, decide_false, qaa, cond_false, Option.map_some, Option.bind_some]
theorem qqj (D : Nat) (hD : D ≤ 900000) : UC 60 (fun t : Tm => [t.v]) (fun t _ _ => t.size ≤ D) (fun t => t.v) := by
 refine UC.of (cf := cf60) (np := 1) (by kernel_rfl) (by kernel_rfl) (fun _ => rfl) (fun _ => by simp only [List.all_cons, qan]; rfl) (fun _ => by simp only [List.map_cons, qao]; rfl) (fun _ => Stab.pure _) (fun t lo => qaV lo _)
  ((qds (R := fun _ _ _ _ => True) (fv := fun _ => _) (fun _ _ _ _ _ _ _ _ => trivial) (fun _ => rfl) (fun _ => rfl) (fun _ t _ _ _ => ⟨Nat.le_refl _, fun _ _ => trivial⟩) D (qov (g := fun t _ => (t, true)) (Ad := fun _ => True) (d := D) qjU)).mono fun n h t E s hs => ?_)
 obtain ⟨s', h', _, _⟩ := h () () E s t 0 hs trivial (by omega) (by omega) trivial
 have e := qfT (σ := Unit) (fun t _ => t) (fun _ _ => ⟨rfl, rfl⟩) D () t 0 hs
 rw [show (fun (x : Unit) (t : Tm) (l : Int) => (x, (fun (t : Tm) (_ : Int) => (t, true)) t l)) = fun x t l => (x, (fun (t : Tm) (_ : Int) => t) t l, true) from rfl, e, qot t.size t 0 (Nat.le_refl _)] at h'
 refine ⟨t.v, s', (s60_eq _ _ _ _).trans ?_, qao _⟩
 unfold s60
 simp only [h', qal, qaW, qaC, Option.bind_some, qab]
theorem qtU (t : Tm) (hs : t.size ≤ 100000) : UC 66 (fun p : Int × Tm => [t.v, i64 p.1, p.2.v]) (fun p _ _ => p.2.size ≤ 100000) (fun p => (qdB p.2 p.1 t).v) := by
 refine UC.of (cf := cf66) (np := 3) (by kernel_rfl) (by kernel_rfl) (fun _ => rfl) (fun _ => by simp only [List.all_cons, qan]; rfl) (fun _ => by simp only [List.map_cons, qao]; rfl) (fun _ => Stab.pure _) (fun t lo => qaV lo _)
  (((qds (κ := Nat × qaJ) (R := RP2) (by_ := qhK) (Ad := fun _ => True) (fv := fun q => .func 115 [] [.ptr (q.1 + 2) 0, .ptr q.1 0, .ptr (q.1 + 1) 0]) (fun q x E s s' r e1 e2 => by unfold RP2 RP at r ⊢; rw [e1]; exact r) (fun _ => rfl) (fun _ => rfl) (fun c t l _ hgo => by
   unfold qhK qdh at hgo ⊢
   split
   ·rename_i h; simp only [h, if_true] at hgo; cases hgo
   ·exact ⟨Nat.le_refl _, fun _ _ => trivial⟩) t.size (qtT t.size)).and (qqj 200000 (by omega))).mono fun n ⟨h, hcp⟩ p E s hp => ?_)
 obtain ⟨a, u⟩ := p
 simp only at hp ⊢
 let s14 := qaf (qaf (qaf s (.cells [i64 a])) (.cells u.c)) (.cells [i64 0])
 obtain ⟨s', e1, e2, _⟩ := h (s.next, s.heap) (0, a, u) E s14 t 0 (Nat.le_refl _) trivial (by omega) (by omega) rfl
 rw [qmf] at e1
 simp only [qoZ a u t hs] at e1
 have hcp' := hcp (qdB u a t) E s' (by have := qoY u a t; omega)
 have hst : stH (qaf (qaf (qaf s (.cells [i64 a])) (.cells u.c)) (.cells [i64 0])) (.ptr (qaf (qaf s (.cells [i64 a])) (.cells u.c)).next 0) [i64 0] = some s14 := qg8 _ _ _ _ _ rfl rfl
 have haw : [i64 a].all qaK = true := rfl
 have e1' : cl (qae CP n E) 108 [t.v, i64 0, .func 115 [] [.ptr (qaf (qaf s (.cells [i64 a])) (.cells u.c)).next 0, .ptr s.next 0, .ptr (qaf s (.cells [i64 a])).next 0]] s14 = some ((qdB u a t).v, s') := e1
 refine ⟨(qdB u a t).v, s', (s66_eq _ _ _ _ _ _).trans ?_, qao _⟩
 unfold s66
 simp only [haw, qbh, hst, e1', hcp', qal, qaW, qaC, qrN, Option.bind_some, qab, qaS, qbg, cnd]
end Go.AI.Tryz
namespace Go.AI.Tryz
abbrev rv (w : Rw) : AVal := .agg [u8 w.1, i64 w.2]
theorem qo0 (ng : Bool) (v w : Rw) : eqs [1, 1] ng (rv v) (rv w) = some (bl (cond ng (!(decide (v.1 = w.1) && decide (v.2 = w.2))) (decide (v.1 = w.1) && decide (v.2 = w.2)))) := by
 have h1 : ∀ k a b, qq2 (.int k a) (.int k b) = some (decide (a = b)) := fun k a b => by
  show cond (keq k k) (some (ieq a b)) none = _
  rw [qb9]; cases k <;> rfl
 have h2 : ∀ k a b, eqK 1 (.p (.int k a)) (.p (.int k b)) = some (decide (a = b)) := fun k a b => by rw [← h1 k a b]; rfl
 unfold eqs pu
 simp only [qax, qq1, Arg.ev, qml, h2, Option.bind_some]
 cases decide (v.1 = w.1) <;> cases decide (v.2 = w.2) <;> cases ng <;> rfl
theorem qsj (w : Rw) : UC 97 (fun p : Int × Nat => [u8 p.1, .ptr p.2 0]) (fun p E s => qaj E s p.2 = some [u8 w.1, i64 w.2]) (fun p => bl (decide (p.1 = w.1))) := by
 refine UC.of (cf := cf97) (np := 2) (by kernel_rfl) (by kernel_rfl) (fun _ => rfl) (fun _ => rfl) (fun _ => rfl) (fun p => Stab.at p.2 _) (fun _ _ => rfl) (Ev.of fun n p E s hc => ⟨bl (decide (p.1 = w.1)), s, (s97_eq _ _ _ _ _).trans ?_, rfl⟩)
 have hc' : qaj (qae CP n E).E s p.2 = some [u8 w.1, i64 w.2] := by rw [qaQ]; exact hc
 have hl : ldL [u8 w.1, i64 w.2] 0 none = some (u8 w.1) := rfl
 unfold s97
 simp only [ldP hc', hl, Nat.zero_add, qag, qaq, Option.map_some, Option.bind_some, qbH]
abbrev ZC : List AVal := [u8 0, i64 0, i64 0, i64 0, .sl 0 [] .full]
def qj4 (t : Tm) (w : Rw) (y : Option Tm) (o : Of) : Option Tm × Bool := if decide (o.1 = w.1) && decide (o.2.1 = w.2) then (some (qdB o.2.2 w.2 t), false) else (y, true)
def qj5 (a : Ar) (t : Tm) (w : Rw) : Option Tm := (qba (qj4 t w) none (qeu (fun k => decide (k = w.1)) 0 (qbf t (qaD a)))).1
def xOf : Option Tm → EX
 | none => .normal
 | some _ => .ret
def cOf : Option Tm → List AVal
 | none => ZC
 | some r => r.c
def U55 (x : Vw) (t : Tm) (w : Rw) (q : K27) (y : Option Tm) (E H : qaJ) (tk : Nat × List (Nat × Nat × Nat)) : Prop :=
 (q.1.get qai 4 = .ptr q.2.2.1 0 ∧ q.1.get qai 5 = .ptr (q.2.2.1 + 1) 0 ∧ q.1.get qai 6 = .ptr (q.2.2.1 + 2) 0 ∧ q.1.get qai 7 = .ptr (q.2.2.1 + 3) 0 ∧ (∀ t, t < 31 → q.1.has t = true) ∧ (∀ i, q.2.1.get (0, []) i = (0, [])) ∧ q.2.1.has 1 = true ∧ q.2.1.has 2 = true) ∧
 H = (q.2.2.1 + 6, .loop (qmm (xOf y)) (qdv (xOf y)) q.1 q.2.1 [17, 18] ra55 rb55) :: (q.2.2.1 + 5, .cells [.func 97 [] [.ptr (q.2.2.1 + 1) 0]]) :: (q.2.2.1 + 4, .cells x.c) :: (q.2.2.1 + 3, .cells [bl y.isSome]) :: (q.2.2.1 + 2, .cells (cOf y)) :: (q.2.2.1 + 1, .cells [u8 w.1, i64 w.2]) :: (q.2.2.1, .cells t.c) :: q.2.2.2
theorem qsk (x : Vw) (t : Tm) (w : Rw) (hs : t.size ≤ 100000) : Ev fun n => YC (fun q : K27 => q.2.2.1 + 7) (fun q => .yield (q.2.2.1 + 6)) (U55 x t w) (qj4 t w) (fun u => u.size ≤ 100000) (fun _ y => y = none) n := by
 refine Ev.succ (((qtU t hs).and (Ev.ge 1)).mono fun n ⟨hput, hn⟩ q y E H pre s o m hos hh hpre hN hU hlv => ?_)
 subst hlv
 obtain ⟨fr, lo, N, H0⟩ := q
 obtain ⟨⟨f4, f5, f6, f7, fh, l0, l1h, l2h⟩, hH⟩ := hU
 simp only at f4 f5 f6 f7 fh l0 l1h l2h hH hpre hN
 subst hH
 obtain ⟨k, at_, u⟩ := o
 simp only at hos
 have hpl : ∀ v ∈ pre, v.1 ≠ N + 6 := fun v hv => by have := hpre v hv; omega
 let LP : HObj := .loop 1 none fr lo [17, 18] ra55 rb55
 let base : qaJ := (N + 1, .cells [u8 w.1, i64 w.2]) :: (N, .cells t.c) :: H0
 let P : qaJ := pre ++ [(N + 6, LP), (N + 5, .cells [.func 97 [] [.ptr (N + 1) 0]]), (N + 4, .cells x.c)]
 let hp : Option Tm → Bool → qaJ := fun r b => P ++ (N + 3, .cells [bl b]) :: (N + 2, .cells (cOf r)) :: base
 let uf : ASt → ASt := fun s => { s with heap := pre ++ (N + 6, LP) :: (N + 5, .cells [.func 97 [] [.ptr (N + 1) 0]]) :: (N + 4, .cells x.c) :: (N + 3, .cells [bl false]) :: (N + 2, .cells ZC) :: base }
 have hP : ∀ v ∈ P, N + 3 < v.1 := by
  intro v hv
  simp only [P, List.mem_append, List.mem_cons, List.not_mem_nil, or_false] at hv
  rcases hv with hv | rfl | rfl | rfl
  ·have := hpre v hv; omega
  ·simp only; omega
  ·simp only; omega
  ·simp only; omega
 have hu0 : (uf s).heap = hp none false := by simp only [uf, hp, P, base, cOf, List.append_assoc, List.cons_append, List.nil_append]
 have hc1 : ∀ (m : Nat) r b (s' : ASt), s'.heap = hp r b → qaj (qae CP m E).E s' (N + 1) = some [u8 w.1, i64 w.2] := fun m r b s' h => qbn (pre := P ++ [(N + 3, .cells [bl b]), (N + 2, .cells (cOf r))]) (H := (N, .cells t.c) :: H0) (by rw [h]; simp only [hp, base, List.append_assoc, List.cons_append, List.nil_append]) (by
  intro v hv
  simp only [List.mem_append, List.mem_cons, List.not_mem_nil, or_false] at hv
  rcases hv with hv | rfl | rfl
  ·have := hP v hv; omega
  ·simp only; omega
  ·simp only; omega)
 have hc0 : ∀ (m : Nat) r b (s' : ASt), s'.heap = hp r b → qaj (qae CP m E).E s' N = some t.c := fun m r b s' h => qbn (pre := P ++ [(N + 3, .cells [bl b]), (N + 2, .cells (cOf r)), (N + 1, .cells [u8 w.1, i64 w.2])]) (H := H0) (by rw [h]; simp only [hp, base, List.append_assoc, List.cons_append, List.nil_append]) (by
  intro v hv
  simp only [List.mem_append, List.mem_cons, List.not_mem_nil, or_false] at hv
  rcases hv with hv | rfl | rfl | rfl
  ·have := hP v hv; omega
  ·simp only; omega
  ·simp only; omega
  ·simp only; omega)
 let r : Tm := qdB u w.2 t
 let sA : ASt := { uf s with heap := hp (some r) false }
 let sB : ASt := { uf s with heap := hp (some r) true }
 have st2 : stH (uf s) (.ptr (N + 2) 0) r.c = some sA := by
  have := qd1 (s := uf s) (pre := P ++ [(N + 3, .cells [bl false])]) (l := N + 2) (o := 0) (zs := ZC) (cs := r.c) (new := r.c) (H := base) (by rw [hu0]; simp only [hp, cOf, List.append_assoc, List.cons_append, List.nil_append]) (by
   intro v hv
   simp only [List.mem_append, List.mem_cons, List.not_mem_nil, or_false] at hv
   rcases hv with hv | rfl
   ·have := hP v hv; omega
   ·simp only; omega) rfl rfl
  rw [this]
  simp only [sA, hp, cOf, List.append_assoc, List.cons_append, List.nil_append]
 have st3 : stH sA (.ptr (N + 3) 0) [bl true] = some sB := by
  have := qd1 (s := sA) (pre := P) (l := N + 3) (o := 0) (zs := [bl false]) (cs := [bl true]) (new := [bl true]) (H := (N + 2, .cells r.c) :: base) rfl (by
   intro v hv
   have := hP v hv; omega) rfl rfl
  rw [this]
  rfl
 have e1 : AVal.cells (some 2) (rwV (k, at_, u)) = some [u8 k, i64 at_] := rfl
 have l2 : ldL [u8 k, i64 at_] 0 (some 2) = some (rv (k, at_)) := rfl
 have l2w : ldL [u8 w.1, i64 w.2] 0 (some 2) = some (rv w) := rfl
 have l1w : ldL [u8 w.1, i64 w.2] 1 none = some (i64 w.2) := rfl
 have st2' : stH (uf s) (.ptr (N + 2) 0) (qdB u w.2 t).c = some sA := st2
 have hput' := hput (w.2, u) E (uf s) hos
 simp only at hput'
 have hx : ∃ s2, qpU 31 3 (qae CP n E) n ra55 rb55 uf ((17, rwV (k, at_, u)) :: (18, u.v) :: [(4, .ptr N 0), (5, .ptr (N + 1) 0), (6, .ptr (N + 2) 0), (7, .ptr (N + 3) 0)]) [(1, (0, [])), (2, (0, []))] s = some (qij (xOf (qj4 t w none (k, at_, u)).1), s2) ∧ s2.heap = hp (qj4 t w none (k, at_, u)).1 (qj4 t w none (k, at_, u)).1.isSome ∧ s2.next = s.next := by
  by_cases hm : (decide (k = w.1) && decide (at_ = w.2)) = true
  ·have hst : qj4 t w none (k, at_, u) = (some r, false) := by unfold qj4; rw [if_pos hm]
   rw [hst]
   refine ⟨sB, (y55_eq (qae CP n E) n uf N (N + 1) (N + 2) (N + 3) (rwV (k, at_, u)) u.v s).trans ?_, rfl, rfl⟩
   unfold y55
   simp only [e1, qe5, l2, ldP (hc1 n none false (uf s) hu0), ldP (hc0 n none false (uf s) hu0), l2w, l1w, qo0, hm, hput', st2', st3, qbd, qal, qaW, qaC, Bool.not_true, qaa, cond_true, cond_false, Option.bind_some, qab]
   rfl
  ·have hst : qj4 t w none (k, at_, u) = (none, true) := by unfold qj4; rw [if_neg hm]
   have hm : (decide (k = w.1) && decide (at_ = w.2)) = false := by simpa using hm
   rw [hst]
   refine ⟨uf s, (y55_eq (qae CP n E) n uf N (N + 1) (N + 2) (N + 3) (rwV (k, at_, u)) u.v s).trans ?_, hu0, rfl⟩
   unfold y55
   simp only [e1, qe5, l2, ldP (hc1 n none false (uf s) hu0), ldP (hc0 n none false (uf s) hu0), l2w, l1w, qo0, hm, qbd, qal, qaW, qaC, Bool.not_false, qaa, cond_false, Option.bind_some]
   rfl
 obtain ⟨s2, hrun, hs2, hs2n⟩ := hx
 generalize hr : qj4 t w none (k, at_, u) = R at hrun hs2
 have hgo : qhb (xOf R.1) = R.2 ∧ (R.2 = true → R.1 = none) := by
  subst hr
  unfold qj4
  split <;> exact ⟨rfl, by simp⟩
 have hs2' : s2.heap = pre ++ (N + 6, .loop 1 none fr lo [17, 18] ra55 rb55) :: ((N + 5, .cells [.func 97 [] [.ptr (N + 1) 0]]) :: (N + 4, .cells x.c) :: (N + 3, .cells [bl R.1.isSome]) :: (N + 2, .cells (cOf R.1)) :: base) := by
  rw [hs2]; simp only [hp, P, LP, base, List.append_assoc, List.cons_append, List.nil_append]
 have hy := qk5 (n := n) (nt := 31) (nl := 3) (E := E) (ly := N + 6) (fr := fr) (lo := lo) (pre := pre) (F0 := [(4, .ptr N 0), (5, .ptr (N + 1) 0), (6, .ptr (N + 2) 0), (7, .ptr (N + 3) 0)]) (L := [(1, (0, [])), (2, (0, []))]) (v1 := rwV (k, at_, u)) (v2 := u.v) (x := xOf R.1) (by kernel_rfl) (by kernel_rfl) (by omega) (by omega) (by omega) hh hpl
  (fun t u hu => by
   simp only [qak] at hu
   split at hu
   ·rename_i e; subst e; rw [f4]; simpa using hu
   ·split at hu
    ·rename_i e; subst e; rw [f5]; simpa using hu
    ·split at hu
     ·rename_i e; subst e; rw [f6]; simpa using hu
     ·split at hu
      ·rename_i e; subst e; rw [f7]; simpa using hu
      ·cases hu) fh
  (fun i p hi => by
   simp only [qak] at hi
   split at hi
   ·rename_i e; subst e
    simp only [Option.some.injEq] at hi
    subst hi
    exact ⟨l0 _, l1h⟩
   ·split at hi
    ·rename_i e; subst e
     simp only [Option.some.injEq] at hi
     subst hi
     exact ⟨l0 _, l2h⟩
    ·cases hi) (by simp only [List.all_cons, qan]; rfl) hrun hs2'
 rw [hgo.1] at hy
 refine ⟨_, _, hy, rfl, hs2n, ⟨⟨f4, f5, f6, f7, fh, l0, l1h, l2h⟩, rfl⟩, hgo.2⟩
end Go.AI.Tryz
namespace Go.AI.Tryz
theorem qvp {x : Vw} {t : Tm} {w : Rw} {q : K27} {y : Option Tm} {E H : qaJ} {tk : Nat × List (Nat × Nat × Nat)} (h : U55 x t w q y E H tk) : qcg E H (q.2.2.1 + 1) = some [u8 w.1, i64 w.2] := by
 obtain ⟨_, rfl⟩ := h
 rw [qa2 (by omega), qa2 (by omega), qa2 (by omega), qa2 (by omega), qa2 (by omega), qcR]
theorem qvq (x : Vw) (t : Tm) (w : Rw) (q : K27) (y : Option Tm) (E H : qaJ) (tk : Nat × List (Nat × Nat × Nat)) (h : U55 x t w q y E H tk) : qcg E H (q.2.2.1 + 4) = some x.c ∧ q.2.2.1 + 4 < q.2.2.1 + 7 := by
 obtain ⟨_, rfl⟩ := h
 exact ⟨by rw [qa2 (by omega), qa2 (by omega), qcR], by omega⟩
theorem qvr (x : Vw) (t : Tm) (w : Rw) (q : K27) (y : Option Tm) (E H : qaJ) (tk : Nat × List (Nat × Nat × Nat)) (h : U55 x t w q y E H tk) : qcg E H (q.2.2.1 + 5) = some [.func 97 [] [.ptr (q.2.2.1 + 1) 0]] ∧ q.2.2.1 + 5 < q.2.2.1 + 7 := by
 obtain ⟨_, rfl⟩ := h
 exact ⟨by rw [qa2 (by omega), qcR], by omega⟩
theorem qtV (x : Vw) (t : Tm) (w : Rw) : Ev fun n => SmC (fun q : K27 => q.2.2.1 + 7) (fun q => .func 97 [] [.ptr (q.2.2.1 + 1) 0]) (U55 x t w) (fun k => decide (k = w.1)) n :=
 ((qsj w).and (Ev.ge 1)).mono fun n ⟨h, hn⟩ q y E H pre s i hi hh hp hU => by
  rw [qg7 CP hn]
  refine h (.ofNat (i + 1), q.2.2.1 + 1) E s ?_
  rw [qet hh (fun v hv => by have := hp v hv; simp only at this; omega)]
  exact qvp hU
theorem qj6 {a : Ar} {t : Tm} (hc : qbJ a t = 0) (ok : t.Ok) (h1 : a.ids.length ≤ 100000) (hs : t.size ≤ 100000) (hg : ∀ p ∈ qbf t (qaD a), p.1.top ≤ Int.ofNat p.1.ids.length) : ∀ p ∈ qbf t (qaD a), ∀ i, i < 22 → ∀ u, qbG i p.1 p.2 = some u → u.size ≤ 100000 := by
 intro p hp i hi u hu
 obtain ⟨hn, hsz⟩ := qeP _ t (qaD a) (Nat.le_refl _) (qiB hc ok h1 hs) p hp
 have := (keep hn (hg p hp) hi hu).le
 omega
mutual
theorem qj7 : ∀ (t : Tm) (x : Sc), x.top ≤ Int.ofNat x.ids.length → ∀ p ∈ qbf t x, p.1.top ≤ Int.ofNat p.1.ids.length
 | .mk k n m i ks, x, hx => by
  intro p hp
  rw [qbf] at hp
  rcases List.mem_cons.1 hp with rfl | hp
  ·exact hx
  ·refine qhL ks _ 0 (fun j => ?_) p hp
   unfold Sc.kid
   split
   ·simp only [Sc.with, List.length_append, List.length_cons, List.length_nil, Int.ofNat_eq_natCast] at hx ⊢; omega
   ·split
    ·simp only [Sc.with, List.length_append, List.length_cons, List.length_nil, Int.ofNat_eq_natCast] at hx ⊢; omega
    ·split
     ·exact hx
     ·exact hx
theorem qhL : ∀ (ks : List Tm) (sc : Nat → Sc) (j : Nat), (∀ j, (sc j).top ≤ Int.ofNat (sc j).ids.length) → ∀ p ∈ qbC sc j ks, p.1.top ≤ Int.ofNat p.1.ids.length
 | [], _, _, _ => by intro p hp; simp only [qbC] at hp; cases hp
 | u :: r, sc, j, hx => by
  intro p hp
  simp only [qbC, List.mem_append] at hp
  rcases hp with hp | hp
  ·exact qj7 u _ (hx j) p hp
  ·exact qhL r sc (j + 1) hx p hp
end
theorem qlG (a : Ar) (t : Tm) : ∀ p ∈ qbf t (qaD a), p.1.top ≤ Int.ofNat p.1.ids.length := qj7 t _ (by simp only [qaD, List.length_map]; exact Int.le_refl _)
theorem qtW (a : Ar) (t : Tm) (w : Rw) (oa : a.Ok) (ok : t.Ok) (h1 : a.ids.length ≤ 100000) (hs : t.size ≤ 100000) (hc : qbJ a t = 0) : PC CP 55 [a.v, t.v, rv w] (qe8 (qj5 a t w)) := by
 have hav : AVal.cells (some 4) a.v = some [.p (.sl a.ids.length (qaU Ty.cells a.ids)), bl a.root.cell, i64 a.root.n, bl a.jumps] := rfl
 have hal : ldL [.p (.sl a.ids.length (qaU Ty.cells a.ids)), bl a.root.cell, i64 a.root.n, bl a.jumps] 0 (some 4) = some a.v := rfl
 have hnd := qiB hc ok h1 hs
 let x := vw (qaD a) t
 have hoff := qgL (κ := K27) (N0 := fun q => q.2.2.1 + 7) (l4 := fun q => q.2.2.1 + 4) (l7 := fun q => q.2.2.1 + 5) (yv := fun q => .yield (q.2.2.1 + 6)) (someV := fun q => .func 97 [] [.ptr (q.2.2.1 + 1) 0]) (U := U55 x t w) (st := qj4 t w) (sm := fun k => decide (k = w.1)) (OS := fun u => u.size ≤ 100000) (live := fun _ y => y = none) hnd (by omega) (fun m y h => h) (fun _ => rfl) (fun _ => rfl) (fun _ => rfl) (fun _ => rfl) (qvr x t w) (qvq x t w) (qj6 hc ok h1 hs (qlG a t)) (qsk x t w hs) (qtV x t w)
 refine PC.of2 (cf := cf55) (np := 3) (args' := [a.v, t.v, rv w]) (by kernel_rfl) (by kernel_rfl) rfl (by simp only [List.all_cons, qan]; rfl) (by simp only [List.map_cons, qao]; rfl) (fun lo => qbs lo _)
  (((qoI a t h1).and ((qjZ (ι := Nat) x (fun N => .func 97 [] [.ptr (N + 1) 0]) (fun _ => rfl) (fun _ => rfl) (fun _ => rfl) (fun _ => rfl)).and (hoff.and (nothing_c.and (Ev.ge 1))))).mono fun n ⟨hl, ho, hoff, hnone, hn⟩ E s => ?_)
 let N := s.next
 let s14 := qaf (qaf (qaf (qaf s (.cells t.c)) (.cells [u8 w.1, i64 w.2])) (.cells ZC)) (.cells [bl false])
 let s21 := qaf (qaf s14 (.cells x.c)) (.cells [.func 97 [] [.ptr (N + 1) 0]])
 let R := qj5 a t w
 suffices s55 (qae CP n E) n a.v t.v (rv w) s = some (qe8 R, s21) from ⟨_, s21, (s55_eq _ _ _ _ _ _).trans this, qa5 _⟩
 have hrf : ∀ (F : FL) (L : LL) (kn kx kr : ASt → Res), qam F 4 = some (.ptr N 0) → qam F 5 = some (.ptr (N + 1) 0) → qam F 6 = some (.ptr (N + 2) 0) → qam F 7 = some (.ptr (N + 3) 0) → (∃ p, qam L 1 = some p) → (∃ p, qam L 2 = some p) →
   (∀ (s' : ASt) (P H : qaJ), s'.heap = P ++ (N + 3, .cells [bl R.isSome]) :: (N + 2, .cells (cOf R)) :: H → (∀ v ∈ P, N + 3 < v.1) → ∃ s2 r', qaA r' = qe8 R ∧ (match R with | none => kn s' = some (r', s2) | some _ => kr s' = some (r', s2))) →
   qky (qae CP n E) n 31 (.func 94 [] [.ptr (N + 4) 0, .ptr (N + 5) 0]) [17, 18] ra55 rb55 F L s21 kn kx kr (qe8 R) := by
  intro F L kn kx kr hF4 hF5 hF6 hF7 ⟨p1, hL1⟩ ⟨p2, hL2⟩ hkn
  refine qsd hn fun fr lo hF hh hlo hL => ?_
  let LP : Option Tm → HObj := fun y => .loop (qmm (xOf y)) (qdv (xOf y)) fr lo [17, 18] ra55 rb55
  have hU : U55 x t w (fr, lo, N, s.heap) none E (qaf s21 (LP none)).heap (qkd (qaf s21 (LP none))) := ⟨⟨hF 4 _ hF4, hF 5 _ hF5, hF 6 _ hF6, hF 7 _ hF7, hh, hlo, hL 1 _ hL1, hL 2 _ hL2⟩, rfl⟩
  obtain ⟨s', pre', H', e1, e2, e3, e4, ⟨_, hH'⟩⟩ := hoff (fr, lo, N, s.heap) none E (qaf s21 (LP none)) (Nat.le_refl _) hU rfl
  have hR : (qba (qj4 t w) none (qeu (fun k => decide (k = w.1)) 0 (qbf t (qaD a)))).1 = R := rfl
  rw [hR] at hH'
  subst hH'
  simp only at e2 e3
  obtain ⟨s2, r', her, hk⟩ := hkn { s' with heap := pre' ++ (s21.next, .gone) :: (N + 5, .cells [.func 97 [] [.ptr (N + 1) 0]]) :: (N + 4, .cells x.c) :: (N + 3, .cells [bl R.isSome]) :: (N + 2, .cells (cOf R)) :: (N + 1, .cells [u8 w.1, i64 w.2]) :: (N, .cells t.c) :: s.heap }
   (pre' ++ [(s21.next, .gone), (N + 5, .cells [.func 97 [] [.ptr (N + 1) 0]]), (N + 4, .cells x.c)]) ((N + 1, .cells [u8 w.1, i64 w.2]) :: (N, .cells t.c) :: s.heap) (by simp only [List.append_assoc, List.cons_append, List.nil_append]) (by
   intro v hv
   simp only [List.mem_append, List.mem_cons, List.not_mem_nil, or_false] at hv
   rcases hv with hv | rfl | rfl | rfl
   ·have := e3 v hv; omega
   ·show N + 3 < N + 1 + 1 + 1 + 1 + 1 + 1; omega
   ·show N + 3 < N + 5; omega
   ·show N + 3 < N + 4; omega)
  refine ⟨xOf R, s', pre', _, s2, r', e1, e2, fun v hv => by have := e3 v hv; show v.1 ≠ N + 1 + 1 + 1 + 1 + 1 + 1; omega, her, ?_⟩
  generalize R = R' at hk ⊢
  cases R' with
  | none => exact hk
  | some r => exact hk
 have haw2 : AVal.cells (some 2) (rv w) = some [u8 w.1, i64 w.2] := rfl
 have hwa : [u8 w.1, i64 w.2].all qaK = true := rfl
 have ho' : cl (qae CP n E) 54 [x.v, .func 97 [] [.ptr (qaf s (.cells t.c)).next 0]] (qaf (qaf (qaf (qaf s (.cells t.c)) (.cells [u8 w.1, i64 w.2])) (.cells [u8 0, i64 0, i64 0, i64 0, .sl 0 [] .full])) (.cells [bl false])) = some (.func 94 [] [.ptr (N + 4) 0, .ptr (N + 5) 0], s21) := ho s.next E s14
 have hl' : ∀ E s, cl (qae CP n E) 65 [a.v, t.v] s = some (x.v, s) := hl
 have hc6 : qaj (qae CP n E).E (qaf (qaf (qaf (qaf s (.cells t.c)) (.cells [u8 w.1, i64 w.2])) (.cells [u8 0, i64 0, i64 0, i64 0, .sl 0 [] .full])) (.cells [bl false])) s.next = some t.c := by
  show qaj _ s14 s.next = _
  rw [qa0 (s := s14) rfl (by show s.next + 1 + 1 + 1 ≠ s.next; omega), qa0 rfl (by show s.next + 1 + 1 ≠ s.next; omega), qa0 rfl (by show s.next + 1 ≠ s.next; omega)]
  exact qaT rfl
 unfold s55
 simp only [hav, hal, haw2, hwa, ldP hc6, hl', ho', qal, qaW, qrN, Option.bind_some, qab, qaS, qbg, cnd, qaw]
 refine qoH 5 2 ?_ (by omega) ?_ (hrf _ _ _ _ _ rfl rfl rfl rfl ⟨_, rfl⟩ ⟨_, rfl⟩ fun s' P H hh hP => ?_)
 ·intro p hp
  simp only [List.mem_cons, List.not_mem_nil, or_false] at hp
  rcases hp with rfl | rfl | rfl | rfl | rfl | rfl | rfl | rfl | rfl | rfl | rfl | rfl | rfl | rfl | rfl <;> simp only <;> omega
 ·intro p hp
  simp only [List.mem_cons, List.not_mem_nil, or_false] at hp
  rcases hp with rfl | rfl | rfl | rfl <;> simp only <;> omega
 ·have q3 : ∀ v ∈ P, v.1 ≠ N + 3 := fun v hv => by have := hP v hv; omega
  have q2 : ∀ (o : HObj), ∀ v ∈ P ++ [(N + 3, o)], v.1 ≠ N + 2 := fun o v hv => by
   simp only [List.mem_append, List.mem_cons, List.not_mem_nil, or_false] at hv
   rcases hv with hv | rfl
   ·have := hP v hv; omega
   ·show N + 3 ≠ N + 2; omega
  have r3 : ∀ (s' : ASt) b c, s'.heap = P ++ (N + 3, .cells [b]) :: (N + 2, .cells c) :: H → qaj (qae CP n E).E s' (s.next + 3) = some [b] := fun s' b c h => qbn h q3
  have r2 : ∀ (s' : ASt) b c, s'.heap = P ++ (N + 3, .cells [b]) :: (N + 2, .cells c) :: H → qaj (qae CP n E).E s' (s.next + 2) = some c := fun s' b c h => qbn (l := N + 2) (pre := P ++ [(N + 3, .cells [b])]) (H := H) (by rw [h]; simp only [List.append_assoc, List.cons_append, List.nil_append]) (q2 _)
  generalize R = R' at hh ⊢
  cases R' with
  | some r =>
   refine ⟨s', .tuple [r.v, bl true], (qa5 (some r)), ?_⟩
   have a3 : qaj (qae CP n E).E s' (qaf (qaf (qaf s (.cells t.c)) (.cells [u8 w.1, i64 w.2])) (.cells [u8 0, i64 0, i64 0, i64 0, .sl 0 [] .full])).next = some [bl true] := r3 s' _ _ hh
   have a2 : qaj (qae CP n E).E s' (qaf (qaf s (.cells t.c)) (.cells [u8 w.1, i64 w.2])).next = some r.c := r2 s' _ _ hh
   simp only [ldP a3, ldP a2, qb4, qaW, Option.bind_some]
  | none =>
   let s1 : ASt := { s' with heap := P ++ (N + 3, .cells [bl false]) :: (N + 2, .cells Tm.z.c) :: H }
   have w2 : stH s' (.ptr (qaf (qaf s (.cells t.c)) (.cells [u8 w.1, i64 w.2])).next 0) Tm.z.c = some s1 := by
    have := qd1 (s := s') (pre := P ++ [(N + 3, .cells [bl false])]) (l := N + 2) (o := 0) (zs := ZC) (cs := Tm.z.c) (new := Tm.z.c) (H := H) (by rw [hh]; simp only [cOf, Option.isSome, List.append_assoc, List.cons_append, List.nil_append]) (q2 _) rfl rfl
    simp only [List.append_assoc, List.cons_append, List.nil_append] at this
    exact this
   have w3 : stH s1 (.ptr (qaf (qaf (qaf s (.cells t.c)) (.cells [u8 w.1, i64 w.2])) (.cells [u8 0, i64 0, i64 0, i64 0, .sl 0 [] .full])).next 0) [bl false] = some s1 := qd1 (s := s1) (l := N + 3) (zs := [bl false]) rfl q3 rfl rfl
   refine ⟨s1, qe8 none, qa5 none, ?_⟩
   have a3 : qaj (qae CP n E).E s1 (qaf (qaf (qaf s (.cells t.c)) (.cells [u8 w.1, i64 w.2])) (.cells [u8 0, i64 0, i64 0, i64 0, .sl 0 [] .full])).next = some [bl false] := r3 s1 _ _ rfl
   have a2 : qaj (qae CP n E).E s1 (qaf (qaf s (.cells t.c)) (.cells [u8 w.1, i64 w.2])).next = some Tm.z.c := r2 s1 _ _ rfl
   have hz : AVal.cells (some 5) Tm.z.v = some Tm.z.c := rfl
   have hzl : ldL Tm.z.c 0 (some 5) = some Tm.z.v := rfl
   simp only [hnone, hz, hzl, w2, w3, ldP a3, ldP a2, qb4, qbd, Option.bind_some, qab, qah, qar, qas, qaw, Option.getD_none, Option.isSome_none]
end Go.AI.Tryz
namespace Go.AI.Tryz
theorem zbd : bd [u8 0, i64 0, i64 0, i64 0, .sl 0 [] .full] [] = some (.agg [u8 0, i64 0, i64 0, i64 0, .sl 0 [] .full]) := rfl
theorem qj8 : AVal.cells (some 5) (.agg [u8 0, i64 0, i64 0, i64 0, .sl 0 [] .full]) = some [u8 0, i64 0, i64 0, i64 0, .sl 0 [] .full] := rfl
theorem quy : ldL [u8 0, i64 0, i64 0, i64 0, .sl 0 [] .full] 0 (some 5) = some (.agg [u8 0, i64 0, i64 0, i64 0, .sl 0 [] .full]) := rfl
theorem qqk : over [u8 0, i64 0, i64 0, i64 0, .sl 0 [] .full] 0 [u8 0, i64 0, i64 0, i64 0, .sl 0 [] .full] = some [u8 0, i64 0, i64 0, i64 0, .sl 0 [] .full] := rfl
theorem qfu (a : Ar) : AVal.cells (some 4) a.v = some [.p (.sl a.ids.length (qaU Ty.cells a.ids)), bl a.root.cell, i64 a.root.n, bl a.jumps] := rfl
theorem qmh (a : Ar) : ldL [.p (.sl a.ids.length (qaU Ty.cells a.ids)), bl a.root.cell, i64 a.root.n, bl a.jumps] 0 (some 4) = some a.v := rfl
theorem qqY (w : Rw) : AVal.cells (some 2) (rv w) = some [u8 w.1, i64 w.2] := rfl
theorem qvJ (w : Rw) : ldL [u8 w.1, i64 w.2] 0 (some 2) = some (rv w) := rfl
end Go.AI.Tryz
namespace Go.AI.Tryz
abbrev Y41 := Option (Option Of)
def qiF (log : List Rw) (_ : Y41) (o : Of) : Y41 × Bool := if log.length = 2000 then (some none, false) else (some (some o), false)
def x41 : Y41 → EX
 | none => .normal
 | some none => .ret
 | some (some _) => .exit 2
def t41 (t : Tm) : Y41 → Tm
 | some (some o) => qdB o.2.2 o.2.1 t
 | _ => t
def qeR (log : List Rw) : Y41 → List Rw
 | some (some o) => log ++ [(o.1, o.2.1)]
 | _ => log
def e41 : Y41 → Int
 | some none => 5
 | _ => 0
def m41 : Y41 → Bool
 | some (some _) => true
 | _ => false
structure K41 (ι : Type) where
 p : ι
 fr : Tr AVal
 lo : Tr (Nat × List AVal)
 M : Nat
 lf : Nat
 P : qaJ
 s0 : ASt
def B41 (s0 : ASt) (t : Tm) (e : Int) (lg : AVal) : qaJ := (s0.next + 4, .cells [lg]) :: (s0.next + 3, .cells [i64 e]) :: (s0.next + 2, .cells [.sl 0 [] .full]) :: (s0.next + 1, .cells ZC) :: (s0.next, .cells t.c) :: s0.heap
section
variable {ι : Type} (fv : ι → AVal) (C : ι → qaJ → ASt → Prop) (sm : Int → Bool)
def U41 (x : Vw) (t : Tm) (log : List Rw) (q : K41 ι) (y : Y41) (E H : qaJ) (tk : Nat × List (Nat × Nat × Nat)) : Prop :=
 (q.fr.get qai 4 = .ptr q.s0.next 0 ∧ q.fr.get qai 6 = .ptr (q.s0.next + 1) 0 ∧ q.fr.get qai 7 = .ptr (q.s0.next + 2) 0 ∧ q.fr.get qai 8 = .ptr (q.s0.next + 3) 0 ∧ q.fr.get qai 9 = .ptr (q.s0.next + 4) 0 ∧ q.fr.get qai 10 = .ptr q.lf 0 ∧ (∀ t, t < 63 → q.fr.has t = true) ∧ (∀ i, q.lo.get (0, []) i = (0, [])) ∧ q.lo.has 1 = true ∧ q.lo.has 2 = true) ∧
 (C q.p E q.s0 ∧ (∀ v ∈ q.P, q.s0.next + 5 ≤ v.1) ∧ q.s0.next + 5 ≤ q.lf ∧ q.lf < q.M) ∧
 ∃ tok, H = (q.M + 2, .loop (qmm (x41 y)) (qdv (x41 y)) q.fr q.lo [21, 22] ra41 rb41) :: (q.M + 1, .cells [fv q.p]) :: (q.M, .cells x.c) :: (q.lf, .cells [bl (m41 y)]) :: (q.P ++ B41 q.s0 (t41 t y) (e41 y) (qbx tok (qeR log y))) ∧ qj0 tk tok (qeR log y)
theorem qsl (x : Vw) (t : Tm) (log : List Rw) (hs : t.size ≤ 100000) (hll : log.length ≤ 2000) : Ev fun n => YC (fun q : K41 ι => q.M + 3) (fun q => .yield (q.M + 2)) (U41 fv C x t log) (qiF log) (fun u => u.size ≤ 100000) (fun _ y => y = none) n := by
 refine Ev.succ (((qtU t hs).and (Ev.ge 1)).mono fun n ⟨hput, hn⟩ q y E H pre s o m hos hh hpre hN hU hlv => ?_)
 subst hlv
 obtain ⟨p, fr, lo, M, lf, P, s0⟩ := q
 obtain ⟨⟨f4, f6, f7, f8, f9, f10, fh, l0, l1h, l2h⟩, ⟨hC, hPi, hlf, hlm⟩, tok, hH, hok⟩ := hU
 simp only at f4 f6 f7 f8 f9 f10 fh l0 l1h l2h hC hPi hlf hlm hH hpre hN
 subst hH
 obtain ⟨k, at_, u⟩ := o
 simp only at hos
 have hpl : ∀ v ∈ pre, v.1 ≠ M + 2 := fun v hv => by have := hpre v hv; omega
 let N := s0.next
 let LP : HObj := .loop 1 none fr lo [21, 22] ra41 rb41
 let Q : qaJ := pre ++ [(M + 2, LP), (M + 1, .cells [fv p]), (M, .cells x.c)]
 let q : K41 ι := ⟨p, fr, lo, M, lf, P, s0⟩
 let hp : Bool → Tm → Int → AVal → qaJ := fun b t e lg => Q ++ (lf, .cells [bl b]) :: (P ++ B41 s0 t e lg)
 let uf : ASt → ASt := fun s => { s with heap := pre ++ (M + 2, LP) :: (M + 1, .cells [fv p]) :: (M, .cells x.c) :: (lf, .cells [bl false]) :: (P ++ B41 s0 t 0 (qbx tok log)) }
 have hQ : ∀ v ∈ Q, lf < v.1 := by
  intro v hv
  simp only [Q, List.mem_append, List.mem_cons, List.not_mem_nil, or_false] at hv
  rcases hv with hv | rfl | rfl | rfl
  ·have := hpre v hv; omega
  ·simp only; omega
  ·simp only; omega
  ·simp only; omega
 have hQP : ∀ b, ∀ v ∈ Q ++ (lf, HObj.cells [bl b]) :: P, N + 5 ≤ v.1 := by
  intro b v hv
  simp only [List.mem_append, List.mem_cons] at hv
  rcases hv with hv | rfl | hv
  ·have := hQ v hv; show s0.next + 5 ≤ v.1; omega
  ·exact hlf
  ·exact hPi v hv
 have hu0 : (uf s).heap = hp false t 0 (qbx tok log) := by simp only [uf, hp, Q, List.append_assoc, List.cons_append, List.nil_append]
 have i4 : ∀ b t e lg, hp b t e lg = (Q ++ (lf, .cells [bl b]) :: P) ++ (N + 4, .cells [lg]) :: (N + 3, .cells [i64 e]) :: (N + 2, .cells [.sl 0 [] .full]) :: (N + 1, .cells ZC) :: (N, .cells t.c) :: s0.heap := fun b t e lg => by simp only [hp, B41, N, List.append_assoc, List.cons_append]
 have i3 : ∀ b t e lg, hp b t e lg = ((Q ++ (lf, .cells [bl b]) :: P) ++ [(N + 4, .cells [lg])]) ++ (N + 3, .cells [i64 e]) :: (N + 2, .cells [.sl 0 [] .full]) :: (N + 1, .cells ZC) :: (N, .cells t.c) :: s0.heap := fun b t e lg => by rw [i4]; simp only [List.append_assoc, List.cons_append, List.nil_append]
 have i2 : ∀ b t e lg, hp b t e lg = ((Q ++ (lf, .cells [bl b]) :: P) ++ [(N + 4, .cells [lg]), (N + 3, .cells [i64 e])]) ++ (N + 2, .cells [.sl 0 [] .full]) :: (N + 1, .cells ZC) :: (N, .cells t.c) :: s0.heap := fun b t e lg => by rw [i4]; simp only [List.append_assoc, List.cons_append, List.nil_append]
 have i1 : ∀ b t e lg, hp b t e lg = ((Q ++ (lf, .cells [bl b]) :: P) ++ [(N + 4, .cells [lg]), (N + 3, .cells [i64 e]), (N + 2, .cells [.sl 0 [] .full])]) ++ (N + 1, .cells ZC) :: (N, .cells t.c) :: s0.heap := fun b t e lg => by rw [i4]; simp only [List.append_assoc, List.cons_append, List.nil_append]
 have i0 : ∀ b t e lg, hp b t e lg = ((Q ++ (lf, .cells [bl b]) :: P) ++ [(N + 4, .cells [lg]), (N + 3, .cells [i64 e]), (N + 2, .cells [.sl 0 [] .full]), (N + 1, .cells ZC)]) ++ (N, .cells t.c) :: s0.heap := fun b t e lg => by rw [i4]; simp only [List.append_assoc, List.cons_append, List.nil_append]
 have hne : ∀ b (T : qaJ) (l : Nat), l < N + 5 → (∀ v ∈ T, l < v.1) → ∀ v ∈ (Q ++ (lf, .cells [bl b]) :: P) ++ T, v.1 ≠ l := by
  intro b T l hl hT v hv
  rw [List.mem_append] at hv
  rcases hv with hv | hv
  ·have := hQP b v hv; omega
  ·have := hT v hv; omega
 have n4 : ∀ b, ∀ v ∈ Q ++ (lf, HObj.cells [bl b]) :: P, v.1 ≠ N + 4 := fun b v hv => by have := hQP b v hv; omega
 have n3 : ∀ b lg, ∀ v ∈ (Q ++ (lf, .cells [bl b]) :: P) ++ [(N + 4, HObj.cells [lg])], v.1 ≠ N + 3 := fun b lg => hne b _ _ (by omega) (by intro v hv; simp only [List.mem_cons, List.not_mem_nil, or_false] at hv; subst hv; simp only; omega)
 have n2 : ∀ b lg e, ∀ v ∈ (Q ++ (lf, .cells [bl b]) :: P) ++ [(N + 4, HObj.cells [lg]), (N + 3, .cells [i64 e])], v.1 ≠ N + 2 := fun b lg e => hne b _ _ (by omega) (by intro v hv; simp only [List.mem_cons, List.not_mem_nil, or_false] at hv; rcases hv with rfl | rfl <;> simp only <;> omega)
 have n1 : ∀ b lg e, ∀ v ∈ (Q ++ (lf, .cells [bl b]) :: P) ++ [(N + 4, HObj.cells [lg]), (N + 3, .cells [i64 e]), (N + 2, .cells [.sl 0 [] .full])], v.1 ≠ N + 1 := fun b lg e => hne b _ _ (by omega) (by intro v hv; simp only [List.mem_cons, List.not_mem_nil, or_false] at hv; rcases hv with rfl | rfl | rfl <;> simp only <;> omega)
 have n0 : ∀ b lg e, ∀ v ∈ (Q ++ (lf, .cells [bl b]) :: P) ++ [(N + 4, HObj.cells [lg]), (N + 3, .cells [i64 e]), (N + 2, .cells [.sl 0 [] .full]), (N + 1, .cells ZC)], v.1 ≠ N := fun b lg e => hne b _ _ (by omega) (by intro v hv; simp only [List.mem_cons, List.not_mem_nil, or_false] at hv; rcases hv with rfl | rfl | rfl | rfl <;> simp only <;> omega)
 have c4 : ∀ (s' : ASt) b t e lg, s'.heap = hp b t e lg → qaj (qae CP n E).E s' (N + 4) = some [lg] := fun s' b t e lg h => qbn (h.trans (i4 ..)) (n4 b)
 have c0 : ∀ (s' : ASt) b t e lg, s'.heap = hp b t e lg → qaj (qae CP n E).E s' N = some t.c := fun s' b t e lg h => qbn (h.trans (i0 ..)) (n0 b lg e)
 have e1 : AVal.cells (some 2) (rwV (k, at_, u)) = some [u8 k, i64 at_] := rfl
 have l2 : ldL [u8 k, i64 at_] 0 (some 2) = some (rv (k, at_)) := rfl
 have l1 : ldL [u8 k, i64 at_] 1 none = some (i64 at_) := rfl
 have one : ∀ v : AVal, ldL [v] 0 none = some v := fun _ => rfl
 have hx : ∃ s2 tok', qpU 63 3 (qae CP n E) n ra41 rb41 uf ((21, rwV (k, at_, u)) :: (22, u.v) :: [(4, .ptr N 0), (6, .ptr (N + 1) 0), (7, .ptr (N + 2) 0), (8, .ptr (N + 3) 0), (9, .ptr (N + 4) 0), (10, .ptr lf 0)]) [(1, (0, [])), (2, (0, []))] s = some (qij (x41 (qiF log none (k, at_, u)).1), s2) ∧
   s2.heap = hp (m41 (qiF log none (k, at_, u)).1) (t41 t (qiF log none (k, at_, u)).1) (e41 (qiF log none (k, at_, u)).1) (qbx tok' (qeR log (qiF log none (k, at_, u)).1)) ∧ s2.next = s.next ∧ qj0 (qkd s2) tok' (qeR log (qiF log none (k, at_, u)).1) := by
  by_cases hm : log.length = 2000
  ·have hst : qiF log none (k, at_, u) = (some none, false) := by unfold qiF; rw [if_pos hm]
   rw [hst]
   have w1 : stH (uf s) (.ptr (N + 1) 0) [u8 0, i64 0, i64 0, i64 0, .sl 0 [] .full] = some (uf s) := by
    have := qd1 (o := 0) (cs := ZC) (new := ZC) (hu0.trans (i1 ..)) (n1 false (qbx tok log) 0) rfl rfl
    rw [← i1, ← hu0] at this
    exact this
   have w2 : stH (uf s) (.ptr (N + 2) 0) [.sl 0 [] .full] = some (uf s) := by
    have := qd1 (o := 0) (cs := [.sl 0 [] .full]) (new := [.sl 0 [] .full]) (hu0.trans (i2 ..)) (n2 false (qbx tok log) 0) rfl rfl
    rw [← i2, ← hu0] at this
    exact this
   have w3 : stH (uf s) (.ptr (N + 3) 0) [i64 5] = some { uf s with heap := hp false t 5 (qbx tok log) } := by
    have := qd1 (o := 0) (cs := [i64 5]) (new := [i64 5]) (hu0.trans (i3 ..)) (n3 false (qbx tok log)) rfl rfl
    rw [← i3] at this
    exact this
   have hfz : AVal.cells none (.sl 0 [] .full) = some [.sl 0 [] .full] := rfl
   refine ⟨{ uf s with heap := hp false t 5 (qbx tok log) }, tok, (y41_eq (qae CP n E) n uf N (N + 1) (N + 2) (N + 3) (N + 4) (.ptr lf 0) (rwV (k, at_, u)) u.v s).trans ?_, rfl, rfl, hok⟩
   have hln : i64 (.ofNat log.length) = i64 2000 := by rw [hm]; rfl
   unfold y41
   simp only [e1, qe5, ldP (c4 (uf s) _ _ _ _ hu0), one, qqV, hln, zbd, qj8, w1, w2, w3, hfz, qbh, qal, qaC, qag, qaq, decide_true, qaa, cond_true, Option.map_some, Option.bind_some, cnd]
   rfl
  ·have hst : qiF log none (k, at_, u) = (some (some (k, at_, u)), false) := by unfold qiF; rw [if_neg hm]
   rw [hst]
   have hput' := hput (at_, u) E (uf s) hos
   simp only at hput'
   obtain ⟨tok', ts, nt', a1, a2⟩ := qoJ (qae CP n E) (s := uf s) (y := log) (tok := tok) hok (k, at_) (by omega)
   let sA : ASt := { uf s with ntok := nt', toks := ts }
   have hA : sA.heap = hp false t 0 (qbx tok log) := hu0
   have w0 : stH sA (.ptr N 0) (qdB u at_ t).c = some { sA with heap := hp false (qdB u at_ t) 0 (qbx tok log) } := by
    have := qd1 (o := 0) (cs := (qdB u at_ t).c) (new := (qdB u at_ t).c) (hA.trans (i0 ..)) (n0 false (qbx tok log) 0) rfl rfl
    rw [← i0] at this
    exact this
   let sB : ASt := { sA with heap := hp false (qdB u at_ t) 0 (qbx tok log) }
   have w4 : stH sB (.ptr (N + 4) 0) [qbx tok' (log ++ [(k, at_)])] = some { sB with heap := hp false (qdB u at_ t) 0 (qbx tok' (log ++ [(k, at_)])) } := by
    have := qd1 (s := sB) (o := 0) (cs := [qbx tok' (log ++ [(k, at_)])]) (new := [qbx tok' (log ++ [(k, at_)])]) (i4 ..) (n4 false) (qfV _ _) rfl
    rw [← i4] at this
    exact this
   let sC : ASt := { sB with heap := hp false (qdB u at_ t) 0 (qbx tok' (log ++ [(k, at_)])) }
   have w5 : stH sC (.ptr lf 0) [bl true] = some { sC with heap := hp true (qdB u at_ t) 0 (qbx tok' (log ++ [(k, at_)])) } := by
    exact qd1 (s := sC) (o := 0) (cs := [bl true]) (new := [bl true]) (zs := [bl false]) rfl (fun v hv => by have := hQ v hv; omega) rfl rfl
   have w0' : stH { next := (uf s).next, heap := (uf s).heap, ntok := nt', toks := ts } (.ptr N 0) (qdB u at_ t).c = some sB := w0
   have w4' : stH sB (.ptr (N + 4) 0) [qbx tok' (log ++ [(k, at_)])] = some sC := w4
   have hms : ms 1 [.int .u8 0, .int .i64 0] [(0, some 2, .c (rv (k, at_)))] = some (.sl 1 (rwC (k, at_)) .full) := rfl
   have hpu : (qae CP n E).pure 66 = true := by
    have h66 : qcA CP 66 = true := by kernel_rfl
    have : ∀ m E, (qae CP m E).pure = qcA CP := fun m E => by cases m <;> rfl
    rw [this]; exact h66
   have hln : ¬ (Int.ofNat log.length = 2000) := fun h => hm (by simp only [Int.ofNat_eq_natCast] at h; omega)
   refine ⟨{ sC with heap := hp true (qdB u at_ t) 0 (qbx tok' (log ++ [(k, at_)])) }, tok', (y41_eq (qae CP n E) n uf N (N + 1) (N + 2) (N + 3) (N + 4) (.ptr lf 0) (rwV (k, at_, u)) u.v s).trans ?_, rfl, rfl, a2⟩
   unfold y41
   simp only [e1, qe5, l2, l1, ldP (c4 (uf s) _ _ _ _ hu0), ldP (c0 (uf s) _ _ _ _ hu0), one, qqV, hln, hput', hms, a1, qeQ, w0', w4', w5, hpu, Bool.true_or, Bool.and_true, qbd, qal, qaW, qaC, qag, qaq, decide_false, qaa, cond_false, Option.map_some, Option.bind_some, qab, cnd]
   rfl
 obtain ⟨s2, tok', hrun, hs2, hs2n, hs2k⟩ := hx
 generalize hr : qiF log none (k, at_, u) = R at hrun hs2 hs2k
 have hgo : qhb (x41 R.1) = R.2 ∧ (R.2 = true → R.1 = none) := by
  subst hr
  unfold qiF
  split <;> exact ⟨rfl, by simp⟩
 have hs2' : s2.heap = pre ++ (M + 2, .loop 1 none fr lo [21, 22] ra41 rb41) :: ((M + 1, .cells [fv p]) :: (M, .cells x.c) :: (lf, .cells [bl (m41 R.1)]) :: (P ++ B41 s0 (t41 t R.1) (e41 R.1) (qbx tok' (qeR log R.1)))) := by
  rw [hs2]; simp only [hp, Q, LP, List.append_assoc, List.cons_append, List.nil_append]
 have hy := qk5 (n := n) (nt := 63) (nl := 3) (E := E) (ly := M + 2) (fr := fr) (lo := lo) (pre := pre) (F0 := [(4, .ptr N 0), (6, .ptr (N + 1) 0), (7, .ptr (N + 2) 0), (8, .ptr (N + 3) 0), (9, .ptr (N + 4) 0), (10, .ptr lf 0)]) (L := [(1, (0, [])), (2, (0, []))]) (v1 := rwV (k, at_, u)) (v2 := u.v) (x := x41 R.1) (by kernel_rfl) (by kernel_rfl) (by omega) (by omega) (by omega) hh hpl
  (fun t u hu => by
   simp only [qak] at hu
   split at hu
   ·rename_i e; subst e; rw [f4]; simpa using hu
   ·split at hu
    ·rename_i e; subst e; rw [f6]; simpa using hu
    ·split at hu
     ·rename_i e; subst e; rw [f7]; simpa using hu
     ·split at hu
      ·rename_i e; subst e; rw [f8]; simpa using hu
      ·split at hu
       ·rename_i e; subst e; rw [f9]; simpa using hu
       ·split at hu
        ·rename_i e; subst e; rw [f10]; simpa using hu
        ·cases hu) fh
  (fun i p hi => by
   simp only [qak] at hi
   split at hi
   ·rename_i e; subst e
    simp only [Option.some.injEq] at hi
    subst hi
    exact ⟨l0 _, l1h⟩
   ·split at hi
    ·rename_i e; subst e
     simp only [Option.some.injEq] at hi
     subst hi
     exact ⟨l0 _, l2h⟩
    ·cases hi) (by simp only [List.all_cons, qan]; rfl) hrun hs2'
 rw [hgo.1] at hy
 exact ⟨_, _, hy, rfl, hs2n, ⟨⟨f4, f6, f7, f8, f9, f10, fh, l0, l1h, l2h⟩, ⟨hC, hPi, hlf, hlm⟩, tok', rfl, hs2k⟩, hgo.2⟩
end
end Go.AI.Tryz
namespace Go.AI.Tryz
noncomputable def F41 (e : Env) (n : Nat) (c4 : List AVal) (l6 : Nat) (x2 : AVal) (l8 : Nat) (l10 : Nat) (l12 : Nat) (l14 : Nat) : (AVal → Nat → Nat → List AVal → List AVal → ASt → Res) → AVal → Nat → Nat → List AVal → List AVal → ASt → Res := (fun h31 x25 g26 g27 c28 c29 s30 =>
 (ldH e s30 x25 none).bind fun x32 =>
 qad x32 ((AVal.cells none (bl false)).bind fun c33 =>
 (stH s30 x25 c33).bind fun s34 =>
 (ldL c4 0 (some 4)).bind fun x35 =>
 (ldH e s34 (.ptr l6 0) (some 5)).bind fun x36 =>
 qac (cl e 65 [x35, x36] s34) fun x37 s38 =>
 qac (cl e 54 [x37, x2] s38) fun x39 s40 =>
 jn (s41_0 e n x25 h31) fun j51 =>
 rfK e n 63 x39 [21, 22] ra41 rb41 [(20, x39), (19, x2), (18, x37), (17, x36), (16, x35), (15, x32), (10, x25), (2, x2), (3, (.lptr 0 1 0)), (4, (.ptr l6 0)), (6, (.ptr l8 0)), (7, (.ptr l10 0)), (8, (.ptr l12 0)), (9, (.ptr l14 0))] [(1, (g26, c28)), (2, (g27, c29)), (0, (1, c4)), (0, (0, []))] s40 (fun s52 => j51 g26 g27 c28 c29 s52) (fun s53 => j51 g26 g27 c28 c29 s53) (fun s54 => (ldH e s54 (.ptr l8 0) (some 5)).bind fun x55 =>
 (ldH e s54 (.ptr l10 0) none).bind fun x56 =>
 (ldH e s54 (.ptr l12 0) none).bind fun x57 =>
 some (.tuple [x55, x56, x57], s54)))
 ((ldH e s30 (.ptr l6 0) (some 5)).bind fun x91 =>
 (ldH e s30 (.ptr l14 0) none).bind fun x92 =>
 (AVal.cells (some 5) x91).bind fun c93 =>
 (stH s30 (.ptr l8 0) c93).bind fun s94 =>
 (AVal.cells none x92).bind fun c95 =>
 (stH s94 (.ptr l10 0) c95).bind fun s96 =>
 (AVal.cells none (i64 0)).bind fun c97 =>
 (stH s96 (.ptr l12 0) c97).bind fun s98 =>
 cnd ((qaX (loadFrom e.E .nil s30 (.ptr l14 0) 1) (loadFrom e.E .nil s94 (.ptr l14 0) 1) && true) && true) ((ldH e s98 (.ptr l8 0) (some 5)).bind fun x99 =>
 (ldH e s98 (.ptr l10 0) none).bind fun x100 =>
 (ldH e s98 (.ptr l12 0) none).bind fun x101 =>
 some (.tuple [x99, x100, x101], s98)) none))
theorem lp41 (e : Env) (n : Nat) (c4 : List AVal) (l6 : Nat) (x2 : AVal) (l8 l10 l12 l14 : Nat) : s41_1 e n c4 l6 x2 l8 l10 l12 l14 = lp (fun _ _ _ _ _ _ => none) (F41 e n c4 l6 x2 l8 l10 l12 l14) n := rfl
def qiG (a : Ar) (sm : Int → Bool) : Nat → Tm → List Rw → Tm × List Rw × Int
 | 0, _, _ => (.z, [], 5)
 | m + 1, t, log => match qeu sm 0 (qbf t (qaD a)) with
  | [] => (t, log, 0)
  | o :: _ => if log.length = 2000 then (.z, [], 5) else qiG a sm m (qdB o.2.2 o.2.1 t) (log ++ [(o.1, o.2.1)])
abbrev qiL (r : Tm × List Rw × Int) : AVal := .tuple [r.1.v, qfd r.2.1, i64 r.2.2]
theorem qqZ (r : Tm × List Rw × Int) : qaA (qiL r) = qiL r := by rw [qiL, Tm.v_eq]; rfl
theorem qo1 (lo : Nat) (r : Tm × List Rw × Int) : qd0 lo (qiL r) = true := by rw [qiL, Tm.v_eq]; rfl
theorem qtX (t : Tm) (tok : Nat) (log : List Rw) (e : Int) : qaA (.tuple [t.v, qbx tok log, i64 e]) = qiL (t, log, e) := by
 rw [qiL, Tm.v_eq]
 show AVal.tuple [_, qcj (qbx tok log), _] = _
 have : qcj (qbx tok log) = qbS (qbx tok log) := by cases log <;> rfl
 rw [this, qqU]
 rfl
theorem qql (tok : Nat) (log : List Rw) : qaX (some [qbx tok log]) (some [qbx tok log]) = true := by
 cases log with
 | nil => rfl
 | cons a r => simp only [qaX, qbx, qdi, qna, qco, qm9, Nat.beq_refl, Bool.and_self]
theorem qfW {sm : Int → Bool} : ∀ {l : List (Sc × Tm)} {b : Int} {o : Of}, o ∈ qeu sm b l → ∃ j p i, l[j]? = some p ∧ o.2.1 = b + Int.ofNat j ∧ i < 22 ∧ o.1 = Int.ofNat (i + 1) ∧ qbG i p.1 p.2 = some o.2.2 ∧ sm o.1 = true
 | [], b, o, h => by simp only [qeu] at h; cases h
 | p :: r, b, o, h => by
  simp only [qeu, List.mem_append] at h
  rcases h with h | h
  ·unfold qdy at h
   rw [List.mem_filterMap] at h
   obtain ⟨i, hi, h⟩ := h
   have hi : i < 22 := by
    simp only [ruL, List.mem_cons, List.not_mem_nil, or_false] at hi
    omega
   split at h
   ·rename_i hs
    rw [Option.map_eq_some_iff] at h
    obtain ⟨u, hu, rfl⟩ := h
    exact ⟨0, p, i, rfl, by simp, hi, rfl, hu, hs⟩
   ·cases h
  ·obtain ⟨j, q, i, h1, h2, h3⟩ := qfW h
   exact ⟨j + 1, q, i, by simpa using h1, by rw [h2]; simp only [Int.ofNat_eq_natCast]; omega, h3⟩
structure Right (a : Ar) (t : Tm) : Prop where
 c : qbJ a t = 0
 ok : t.Ok
theorem Right.nd {a : Ar} {t : Tm} (h : Right a t) (h1 : a.ids.length ≤ 100000) (hs : t.size ≤ 100000) : Nd (qaD a) t := qiB h.c h.ok h1 hs
theorem qla {a : Ar} {t : Tm} {sm : Int → Bool} {o : Of} (h : Right a t) (h1 : a.ids.length ≤ 100000) (hs : t.size ≤ 100000) (ho : o ∈ qeu sm 0 (qbf t (qaD a))) : Right a (qdB o.2.2 o.2.1 t) ∧ (qdB o.2.2 o.2.1 t).size ≤ t.size := by
 have hnd := h.nd h1 hs
 obtain ⟨j, p, i, hj, ha, hi, _, hu, _⟩ := qfW ho
 have hp := List.mem_of_getElem? hj
 obtain ⟨hn, hsz⟩ := qeP _ t _ (Nat.le_refl _) hnd p hp
 have g := keep hn (qlG a t p hp) hi hu
 have hjl : j < t.size := by rw [← qdf t (qaD a)]; exact (List.getElem?_eq_some_iff.1 hj).1
 have hshu : Sh o.2.2 := qdq (x := p.1) (by rw [← g.sz]; exact g.ok2)
 obtain ⟨r1, r2, r3, r4⟩ := qjb g.ok (Lk.of_ok g.sz g.ok2) hshu t.size t (qaD a) j (Nat.le_refl _) hj hnd
 have e : qdB o.2.2 o.2.1 t = Tm.put1 o.2.2 j t := by
  unfold qdB
  rw [if_pos (by rw [ha]; simp only [Int.ofNat_eq_natCast]; omega), ha]
  congr 1
  simp only [Int.ofNat_eq_natCast]; omega
 have hle := g.le
 rw [e]
 refine ⟨⟨?_, r3⟩, by omega⟩
 have hc := h.c
 unfold qbJ at hc ⊢
 split at hc
 ·rename_i h0; exact absurd hc h0
 ·rename_i h0
  rw [if_neg h0]
  split at hc
  ·omega
  ·rename_i h6
   rw [if_neg (by omega), ← r1.2 a.root]
   exact hc
section
variable {ι : Type} {fv : ι → AVal} {C : ι → qaJ → ASt → Prop} {sm : Int → Bool}
def SmH (fv : ι → AVal) (C : ι → qaJ → ASt → Prop) (sm : Int → Bool) (n : Nat) : Prop := ∀ p E (s0 s : ASt) (pre : qaJ) (i : Nat), i < 22 → C p E s0 → s.heap = pre ++ s0.heap → (∀ v ∈ pre, s0.next ≤ v.1) → clv (qae CP n E) (fv p) [u8 (.ofNat (i + 1))] s = some (bl (sm (.ofNat (i + 1))), s)
theorem qtY (x : Vw) (t : Tm) (log : List Rw) (h : Ev fun n => SmH fv C sm n) : Ev fun n => SmC (fun q : K41 ι => q.M + 3) (fun q => fv q.p) (U41 fv C x t log) sm n :=
 h.mono fun n h q y E H pre s i hi hh hp hU => by
  obtain ⟨_, ⟨hC, hP, hlf, hlm⟩, tok, hH, _⟩ := hU
  subst hH
  refine h q.p E q.s0 s (pre ++ (q.M + 2, .loop (qmm (x41 y)) (qdv (x41 y)) q.fr q.lo [21, 22] ra41 rb41) :: (q.M + 1, .cells [fv q.p]) :: (q.M, .cells x.c) :: (q.lf, .cells [bl (m41 y)]) :: (q.P ++ [(q.s0.next + 4, .cells [qbx tok (qeR log y)]), (q.s0.next + 3, .cells [i64 (e41 y)]), (q.s0.next + 2, .cells [.sl 0 [] .full]), (q.s0.next + 1, .cells ZC), (q.s0.next, .cells (t41 t y).c)])) i hi hC ?_ ?_
  ·rw [hh]; simp only [B41, List.append_assoc, List.cons_append, List.nil_append]
  ·intro v hv
   simp only [List.mem_append, List.mem_cons, List.not_mem_nil, or_false] at hv
   rcases hv with hv | rfl | rfl | rfl | rfl | hv | rfl | rfl | rfl | rfl | rfl
   ·have := hp v hv; simp only at this; omega
   all_goals first | (have := hP v hv; omega) | (simp only; omega)
theorem qvs (x : Vw) (t : Tm) (log : List Rw) (q : K41 ι) (y : Y41) (E H : qaJ) (tk : Nat × List (Nat × Nat × Nat)) (h : U41 fv C x t log q y E H tk) : qcg E H q.M = some x.c ∧ q.M < q.M + 3 := by
 obtain ⟨_, _, tok, rfl, _⟩ := h
 exact ⟨by rw [qa2 (by omega), qa2 (by omega), qcR], by omega⟩
theorem qvt (x : Vw) (t : Tm) (log : List Rw) (q : K41 ι) (y : Y41) (E H : qaJ) (tk : Nat × List (Nat × Nat × Nat)) (h : U41 fv C x t log q y E H tk) : qcg E H (q.M + 1) = some [fv q.p] ∧ q.M + 1 < q.M + 3 := by
 obtain ⟨_, _, tok, rfl, _⟩ := h
 exact ⟨by rw [qa2 (by omega), qcR], by omega⟩
end
end Go.AI.Tryz
namespace Go.AI.Tryz
theorem qtZ (log : List Rw) (l : List Of) : (qba (qiF log) none l).1 = match l with | [] => none | o :: _ => if log.length = 2000 then some none else some (some o) := by
 cases l with
 | nil => rfl
 | cons o r =>
  simp only [qba, qiF]
  split <;> simp
def r41 (log : List Rw) : List Of → Y41
 | [] => none
 | o :: _ => if log.length = 2000 then some none else some (some o)
theorem qsm (log : List Rw) (l : List Of) : (qba (qiF log) none l).1 = r41 log l := by
 rw [qtZ]; cases l <;> rfl
def qsD (a : Ar) (sm : Int → Bool) (m : Nat) (t : Tm) (log : List Rw) : List Of → Tm × List Rw × Int
 | [] => (t, log, 0)
 | o :: _ => if log.length = 2000 then (.z, [], 5) else qiG a sm m (qdB o.2.2 o.2.1 t) (log ++ [(o.1, o.2.1)])
theorem qeS (a : Ar) (sm : Int → Bool) (m : Nat) (t : Tm) (log : List Rw) : qiG a sm (m + 1) t log = qsD a sm m t log (qeu sm 0 (qbf t (qaD a))) := by
 rw [qiG]; cases qeu sm 0 (qbf t (qaD a)) <;> rfl
section
variable {ι : Type} {fv : ι → AVal} {C : ι → qaJ → ASt → Prop} {sm : Int → Bool}
abbrev ac (a : Ar) : List AVal := [.p (.sl a.ids.length (qaU Ty.cells a.ids)), bl a.root.cell, i64 a.root.n, bl a.jumps]
theorem qsn {n : Nat} {E : qaJ} (a : Ar) (p : ι) (s0 s : ASt) (t : Tm) (log : List Rw) (tok lf k : Nat) (P : qaJ) (hP : ∀ v ∈ P, s0.next + 5 ≤ v.1) (hlf : s0.next + 5 ≤ lf) (hh : s.heap = (lf, .cells [bl false]) :: (P ++ B41 s0 t 0 (qbx tok log))) :
  ∃ s', lp (fun _ _ _ _ _ _ => none) (F41 (qae CP n E) n (ac a) s0.next (fv p) (s0.next + 1) (s0.next + 2) (s0.next + 3) (s0.next + 4)) (k + 1) (.ptr lf 0) 0 0 [] [] s = some (.tuple [t.v, qbx tok log, i64 0], s') := by
 let N := s0.next
 let W : qaJ := (lf, .cells [bl false]) :: P
 let hp : AVal → List AVal → qaJ := fun c10 c8 => W ++ (N + 4, .cells [qbx tok log]) :: (N + 3, .cells [i64 0]) :: (N + 2, .cells [c10]) :: (N + 1, .cells c8) :: (N, .cells t.c) :: s0.heap
 have hW : ∀ v ∈ W, N + 5 ≤ v.1 := fun v hv => by
  rcases List.mem_cons.1 hv with rfl | hv
  ·exact hlf
  ·exact hP v hv
 have h0 : s.heap = hp (.sl 0 [] .full) ZC := hh.trans rfl
 have hne : ∀ (T : qaJ) (l : Nat), l < N + 5 → (∀ v ∈ T, l < v.1) → ∀ v ∈ W ++ T, v.1 ≠ l := by
  intro T l hl hT v hv
  rw [List.mem_append] at hv
  rcases hv with hv | hv
  ·have := hW v hv; omega
  ·have := hT v hv; omega
 have i3 : ∀ c8 c10, hp c8 c10 = (W ++ [(N + 4, .cells [qbx tok log])]) ++ (N + 3, .cells [i64 0]) :: (N + 2, .cells [c8]) :: (N + 1, .cells c10) :: (N, .cells t.c) :: s0.heap := fun _ _ => by simp only [hp, List.append_assoc, List.cons_append, List.nil_append]
 have i2 : ∀ c8 c10, hp c8 c10 = (W ++ [(N + 4, .cells [qbx tok log]), (N + 3, .cells [i64 0])]) ++ (N + 2, .cells [c8]) :: (N + 1, .cells c10) :: (N, .cells t.c) :: s0.heap := fun _ _ => by simp only [hp, List.append_assoc, List.cons_append, List.nil_append]
 have i1 : ∀ c8 c10, hp c8 c10 = (W ++ [(N + 4, .cells [qbx tok log]), (N + 3, .cells [i64 0]), (N + 2, .cells [c8])]) ++ (N + 1, .cells c10) :: (N, .cells t.c) :: s0.heap := fun _ _ => by simp only [hp, List.append_assoc, List.cons_append, List.nil_append]
 have i0 : ∀ c8 c10, hp c8 c10 = (W ++ [(N + 4, .cells [qbx tok log]), (N + 3, .cells [i64 0]), (N + 2, .cells [c8]), (N + 1, .cells c10)]) ++ (N, .cells t.c) :: s0.heap := fun _ _ => by simp only [hp, List.append_assoc, List.cons_append, List.nil_append]
 have n4 : ∀ v ∈ W, v.1 ≠ N + 4 := fun v hv => by have := hW v hv; omega
 have n3 : ∀ v ∈ W ++ [(N + 4, HObj.cells [qbx tok log])], v.1 ≠ N + 3 := hne _ _ (by omega) (by intro v hv; simp only [List.mem_cons, List.not_mem_nil, or_false] at hv; subst hv; simp only; omega)
 have n2 : ∀ v ∈ W ++ [(N + 4, HObj.cells [qbx tok log]), (N + 3, .cells [i64 0])], v.1 ≠ N + 2 := hne _ _ (by omega) (by intro v hv; simp only [List.mem_cons, List.not_mem_nil, or_false] at hv; rcases hv with rfl | rfl <;> simp only <;> omega)
 have n1 : ∀ c, ∀ v ∈ W ++ [(N + 4, HObj.cells [qbx tok log]), (N + 3, .cells [i64 0]), (N + 2, .cells [c])], v.1 ≠ N + 1 := fun c => hne _ _ (by omega) (by intro v hv; simp only [List.mem_cons, List.not_mem_nil, or_false] at hv; rcases hv with rfl | rfl | rfl <;> simp only <;> omega)
 have n0 : ∀ c d, ∀ v ∈ W ++ [(N + 4, HObj.cells [qbx tok log]), (N + 3, .cells [i64 0]), (N + 2, .cells [c]), (N + 1, .cells d)], v.1 ≠ N := fun c d => hne _ _ (by omega) (by intro v hv; simp only [List.mem_cons, List.not_mem_nil, or_false] at hv; rcases hv with rfl | rfl | rfl | rfl <;> simp only <;> omega)
 have c4 : ∀ (s' : ASt) c d, s'.heap = hp c d → qaj (qae CP n E).E s' (N + 4) = some [qbx tok log] := fun s' c d h => qbn h n4
 have c3 : ∀ (s' : ASt) c d, s'.heap = hp c d → qaj (qae CP n E).E s' (N + 3) = some [i64 0] := fun s' c d h => qbn (h.trans (i3 ..)) n3
 have c2 : ∀ (s' : ASt) c d, s'.heap = hp c d → qaj (qae CP n E).E s' (N + 2) = some [c] := fun s' c d h => qbn (h.trans (i2 ..)) n2
 have c1 : ∀ (s' : ASt) c d, s'.heap = hp c d → qaj (qae CP n E).E s' (N + 1) = some d := fun s' c d h => qbn (h.trans (i1 ..)) (n1 c)
 have c0 : ∀ (s' : ASt) c d, s'.heap = hp c d → qaj (qae CP n E).E s' N = some t.c := fun s' c d h => qbn (h.trans (i0 ..)) (n0 c d)
 let sA : ASt := { s with heap := hp (.sl 0 [] .full) t.c }
 let sB : ASt := { s with heap := hp (qbx tok log) t.c }
 have w1 : stH s (.ptr (N + 1) 0) t.c = some sA := by
  have := qd1 (o := 0) (cs := t.c) (new := t.c) (h0.trans (i1 ..)) (n1 _) rfl rfl
  rw [← i1] at this
  exact this
 have w2 : stH sA (.ptr (N + 2) 0) [qbx tok log] = some sB := by
  have := qd1 (s := sA) (o := 0) (cs := [qbx tok log]) (new := [qbx tok log]) (i2 ..) n2 (qfV _ _) rfl
  rw [← i2] at this
  exact this
 have w3 : stH sB (.ptr (N + 3) 0) [i64 0] = some sB := by
  have := qd1 (s := sB) (o := 0) (cs := [i64 0]) (new := [i64 0]) (i3 ..) n3 rfl rfl
  rw [← i3] at this
  exact this
 have one : ∀ v : AVal, ldL [v] 0 none = some v := fun _ => rfl
 have clf : qaj (qae CP n E).E s lf = some [bl false] := qaT hh
 have lg : ∀ (s' : ASt) c d, s'.heap = hp c d → loadFrom (qae CP n E).E .nil s' (.ptr (N + 4) 0) 1 = some [qbx tok log] := fun s' c d h => by
  simp only [loadFrom, c4 s' c d h, Option.bind_some]
  rfl
 refine ⟨sB, ?_⟩
 rw [qa9]
 generalize lp _ _ k = L
 unfold F41
 have c0' : qaj (qae CP n E).E s s0.next = some t.c := c0 s _ _ h0
 have c4' : qaj (qae CP n E).E s (s0.next + 4) = some [qbx tok log] := c4 s _ _ h0
 have c1B : qaj (qae CP n E).E sB (s0.next + 1) = some t.c := c1 sB _ _ rfl
 have c2B : qaj (qae CP n E).E sB (s0.next + 2) = some [qbx tok log] := c2 sB _ _ rfl
 have c3B : qaj (qae CP n E).E sB (s0.next + 3) = some [i64 0] := c3 sB _ _ rfl
 have w1' : stH s (.ptr (s0.next + 1) 0) t.c = some sA := w1
 have w2' : stH sA (.ptr (s0.next + 2) 0) [qbx tok log] = some sB := w2
 have w3' : stH sB (.ptr (s0.next + 3) 0) [i64 0] = some sB := w3
 have lg1 : loadFrom (qae CP n E).E .nil s (.ptr (s0.next + 4) 0) 1 = some [qbx tok log] := lg s _ _ h0
 have lg2 : loadFrom (qae CP n E).E .nil sA (.ptr (s0.next + 4) 0) 1 = some [qbx tok log] := lg sA _ _ rfl
 simp only [ldP clf, one, ldP c0', ldP c4', qeQ, w1', w2', w3', ldP c1B, ldP c2B, ldP c3B, lg1, lg2, qql, qbh, Bool.and_self, qal, qaW, qaa, cond_false, qav, Option.bind_some, cnd]
theorem qmi (a : Ar) (h1 : a.ids.length ≤ 100000) (hfa : ∀ p, qaK (fv p) = true) (hfw : ∀ p, qbj (fv p) = true) (hfe : ∀ p, qaA (fv p) = fv p) (hfc : ∀ p, AVal.cells none (fv p) = some [fv p]) (hsm : Ev fun n => SmH fv C sm n) :
  ∀ (m : Nat) (t : Tm) (log : List Rw), 1 ≤ m → log.length + m = 2001 → Right a t → t.size ≤ 100000 →
   Ev fun n => ∀ p E (s0 s : ASt) (tok lf k : Nat) (P : qaJ), C p E s0 → (∀ v ∈ P, s0.next + 5 ≤ v.1) → s0.next + 5 ≤ lf → lf < s.next → s.heap = (lf, .cells [bl true]) :: (P ++ B41 s0 t 0 (qbx tok log)) → qj0 (qkd s) tok log → m + 2 ≤ k →
    ∃ r s', lp (fun _ _ _ _ _ _ => none) (F41 (qae CP n E) n (ac a) s0.next (fv p) (s0.next + 1) (s0.next + 2) (s0.next + 3) (s0.next + 4)) k (.ptr lf 0) 0 0 [] [] s = some (r, s') ∧ qaA r = qiL (qiG a sm m t log)
 | 0, t, log, h, hm, ht, hs => absurd h (by omega)
 | m + 1, t, log, _, hm, ht, hs => by
  have hnd := ht.nd h1 hs
  let x := vw (qaD a) t
  let l := qeu sm 0 (qbf t (qaD a))
  have hoff := qgL (κ := K41 ι) (N0 := fun q => q.M + 3) (l4 := fun q => q.M) (l7 := fun q => q.M + 1) (yv := fun q => .yield (q.M + 2)) (someV := fun q => fv q.p) (U := U41 fv C x t log) (st := qiF log) (sm := sm) (OS := fun u => u.size ≤ 100000) (live := fun _ y => y = none) hnd (by omega) (fun m y h => h) (fun _ => rfl) (fun _ => rfl) (fun _ => rfl) (fun _ => rfl) (qvt x t log) (qvs x t log) (qj6 ht.c ht.ok h1 hs (qlG a t)) (qsl fv C x t log hs (by omega)) (qtY x t log hsm)
  have hof := qjZ (ι := ι) x fv hfa hfw hfe hfc
  have IH : Ev fun n => ∀ o r, l = o :: r → log.length ≠ 2000 → ∀ p E (s0 s : ASt) (tok lf k : Nat) (P : qaJ), C p E s0 → (∀ v ∈ P, s0.next + 5 ≤ v.1) → s0.next + 5 ≤ lf → lf < s.next → s.heap = (lf, .cells [bl true]) :: (P ++ B41 s0 (qdB o.2.2 o.2.1 t) 0 (qbx tok (log ++ [(o.1, o.2.1)]))) → qj0 (qkd s) tok (log ++ [(o.1, o.2.1)]) → m + 2 ≤ k →
    ∃ r s', lp (fun _ _ _ _ _ _ => none) (F41 (qae CP n E) n (ac a) s0.next (fv p) (s0.next + 1) (s0.next + 2) (s0.next + 3) (s0.next + 4)) k (.ptr lf 0) 0 0 [] [] s = some (r, s') ∧ qaA r = qiL (qiG a sm m (qdB o.2.2 o.2.1 t) (log ++ [(o.1, o.2.1)])) := by
   cases hl : l with
   | nil => exact Ev.of fun n o r h => nomatch h
   | cons o r =>
    by_cases h20 : log.length = 2000
    ·exact Ev.of fun n o' r' _ h => absurd h20 h
    have hst := qla (o := o) (sm := sm) ht h1 hs (by show o ∈ l; rw [hl]; exact List.mem_cons_self ..)
    refine (qmi a h1 hfa hfw hfe hfc hsm m (qdB o.2.2 o.2.1 t) (log ++ [(o.1, o.2.1)]) (by omega) (by simp only [List.length_append, List.length_cons, List.length_nil]; omega) hst.1 (by have := hst.2; omega)).mono fun n h o' r' e _ => ?_
    simp only [List.cons.injEq] at e
    obtain ⟨rfl, _⟩ := e
    exact h
  refine (((qoI a t h1).and hof).and (hoff.and (IH.and (Ev.ge 1)))).mono fun n ⟨⟨hl, hof⟩, hoff, IH, hn⟩ p E s0 s tok lf k P hC hP hlf hlt hh hok hk => ?_
  obtain ⟨k, rfl⟩ : ∃ k', k = k' + 1 := ⟨k - 1, by omega⟩
  let R := (qba (qiF log) none l).1
  have hR : R = r41 log l := qsm log l
  let s34 : ASt := { s with heap := (lf, .cells [bl false]) :: (P ++ B41 s0 t 0 (qbx tok log)) }
  let M := s.next
  let s40 := qaf (qaf s34 (.cells x.c)) (.cells [fv p])
  have hres : qiG a sm (m + 1) t log = qsD a sm m t log l := qeS a sm m t log
  suffices F41 (qae CP n E) n (ac a) s0.next (fv p) (s0.next + 1) (s0.next + 2) (s0.next + 3) (s0.next + 4) (lp (fun _ _ _ _ _ _ => none) (F41 (qae CP n E) n (ac a) s0.next (fv p) (s0.next + 1) (s0.next + 2) (s0.next + 3) (s0.next + 4)) k) (.ptr lf 0) 0 0 [] [] s = some (qiL (qiG a sm (m + 1) t log), s40) from ⟨_, s40, (by rw [qa9]; exact this), qqZ _⟩
  have hrf : ∀ (F : FL) (L : LL) (kn kx kr : ASt → Res), qam F 4 = some (.ptr s0.next 0) → qam F 6 = some (.ptr (s0.next + 1) 0) → qam F 7 = some (.ptr (s0.next + 2) 0) → qam F 8 = some (.ptr (s0.next + 3) 0) → qam F 9 = some (.ptr (s0.next + 4) 0) → qam F 10 = some (.ptr lf 0) → (∃ p, qam L 1 = some p) → (∃ p, qam L 2 = some p) →
    (∀ (s' : ASt) (P1 : qaJ) (tok' : Nat), s'.heap = P1 ++ (lf, .cells [bl (m41 R)]) :: (P ++ B41 s0 (t41 t R) (e41 R) (qbx tok' (qeR log R))) → (∀ v ∈ P1, lf < v.1) → lf < s'.next → qj0 (qkd s') tok' (qeR log R) → ∃ s2 r', qaA r' = qiL (qiG a sm (m + 1) t log) ∧ (match R with | none => kn s' = some (r', s2) | some none => kr s' = some (r', s2) | some (some _) => kx s' = some (r', s2))) →
    qky (qae CP n E) n 63 (.func 94 [] [.ptr M 0, .ptr (M + 1) 0]) [21, 22] ra41 rb41 F L s40 kn kx kr (qiL (qiG a sm (m + 1) t log)) := by
   intro F L kn kx kr hF4 hF6 hF7 hF8 hF9 hF10 ⟨p1, hL1⟩ ⟨p2, hL2⟩ hkn
   refine qsd hn fun fr lo hF hh' hlo hL => ?_
   let LP : Y41 → HObj := fun y => .loop (qmm (x41 y)) (qdv (x41 y)) fr lo [21, 22] ra41 rb41
   have hU : U41 fv C x t log ⟨p, fr, lo, M, lf, P, s0⟩ none E (qaf s40 (LP none)).heap (qkd (qaf s40 (LP none))) := ⟨⟨hF 4 _ hF4, hF 6 _ hF6, hF 7 _ hF7, hF 8 _ hF8, hF 9 _ hF9, hF 10 _ hF10, hh', hlo, hL 1 _ hL1, hL 2 _ hL2⟩, ⟨hC, hP, hlf, hlt⟩, tok, rfl, hok⟩
   obtain ⟨s', pre', H', e1, e2, e3, e4, ⟨_, _, tok', hH', hok'⟩⟩ := hoff ⟨p, fr, lo, M, lf, P, s0⟩ none E (qaf s40 (LP none)) (Nat.le_refl _) hU rfl
   have hR' : (qba (qiF log) none (qeu sm 0 (qbf t (qaD a)))).1 = R := rfl
   rw [hR'] at hH' hok'
   subst hH'
   simp only at e2 e3
   obtain ⟨s2, r', her, hk⟩ := hkn { s' with heap := pre' ++ (s40.next, .gone) :: (M + 1, .cells [fv p]) :: (M, .cells x.c) :: (lf, .cells [bl (m41 R)]) :: (P ++ B41 s0 (t41 t R) (e41 R) (qbx tok' (qeR log R))) }
    (pre' ++ [(s40.next, .gone), (M + 1, .cells [fv p]), (M, .cells x.c)]) tok' (by simp only [List.append_assoc, List.cons_append, List.nil_append]) (by
    intro v hv
    simp only [List.mem_append, List.mem_cons, List.not_mem_nil, or_false] at hv
    rcases hv with hv | rfl | rfl | rfl
    ·have := e3 v hv; show lf < v.1; omega
    ·show lf < s.next + 1 + 1; omega
    ·show lf < s.next + 1; omega
    ·show lf < s.next; omega) (by show lf < s'.next; rw [e4]; show lf < s.next + 1 + 1 + 1 + 3; omega) hok'
   refine ⟨x41 R, s', pre', _, s2, r', e1, e2, fun v hv => by have := e3 v hv; show v.1 ≠ s.next + 1 + 1; omega, her, ?_⟩
   generalize R = R' at hk ⊢
   match R' with
   | none => exact hk
   | some none => exact hk
   | some (some o) => exact ⟨rfl, hk⟩
  have c6 : qaj (qae CP n E).E s34 s0.next = some t.c := by
   refine qbn (pre := ((lf, .cells [bl false]) :: P) ++ [(s0.next + 4, .cells [qbx tok log]), (s0.next + 3, .cells [i64 0]), (s0.next + 2, .cells [.sl 0 [] .full]), (s0.next + 1, .cells ZC)]) (H := s0.heap) (by simp only [s34, B41, List.append_assoc, List.cons_append, List.nil_append]) ?_
   intro v hv
   simp only [List.mem_append, List.mem_cons, List.not_mem_nil, or_false] at hv
   rcases hv with (rfl | hv) | rfl | rfl | rfl | rfl
   ·simp only; omega
   ·have := hP v hv; omega
   all_goals simp only; omega
  have clf : qaj (qae CP n E).E s lf = some [bl true] := qaT hh
  have wlf : stH s (.ptr lf 0) [bl false] = some s34 := qux hh rfl rfl
  have hl' : ∀ E s, cl (qae CP n E) 65 [a.v, t.v] s = some (x.v, s) := hl
  have ho' : cl (qae CP n E) 54 [x.v, fv p] s34 = some (.func 94 [] [.ptr M 0, .ptr (M + 1) 0], s40) := hof p E s34
  have one : ∀ v : AVal, ldL [v] 0 none = some v := fun _ => rfl
  generalize hLP : lp (fun _ _ _ _ _ _ => none) (F41 (qae CP n E) n (ac a) s0.next (fv p) (s0.next + 1) (s0.next + 2) (s0.next + 3) (s0.next + 4)) k = LPk
  unfold F41
  simp only [ldP clf, one, qbd, wlf, qmh, ldP c6, hl', ho', qaW, qaa, cond_true, qav, Option.bind_some, qab, cnd]
  refine qoH 6 2 ?_ (by omega) ?_ (hrf _ _ _ _ _ rfl rfl rfl rfl rfl rfl ⟨_, rfl⟩ ⟨_, rfl⟩ fun s' P1 tok' hh' hP1 hlt' hok' => ?_)
  ·intro p hp
   simp only [List.mem_cons, List.not_mem_nil, or_false] at hp
   rcases hp with rfl | rfl | rfl | rfl | rfl | rfl | rfl | rfl | rfl | rfl | rfl | rfl | rfl | rfl <;> simp only <;> omega
  ·intro p hp
   simp only [List.mem_cons, List.not_mem_nil, or_false] at hp
   rcases hp with rfl | rfl | rfl | rfl <;> simp only <;> omega
  ·have hfz : AVal.cells none (.sl 0 [] .full) = some [.sl 0 [] .full] := rfl
   have hj : ∀ b, qaj (qae CP n E).E s' lf = some [bl b] → ∃ s2, s41_0 (qae CP n E) n (.ptr lf 0) LPk 0 0 [] [] s' = LPk (.ptr s'.next 0) 0 0 [] [] s2 ∧ s2 = qaf s' (.cells [bl b]) := by
    intro b hb
    have hst : stH (qaf s' (.cells [bl false])) (.ptr s'.next 0) [bl b] = some (qaf s' (.cells [bl b])) := qg8 _ _ _ _ _ rfl rfl
    refine ⟨_, ?_, rfl⟩
    unfold s41_0
    simp only [ldP hb, one, qbd, hst, Option.bind_some, qaS]
   have hcf : qaj (qae CP n E).E s' lf = some [bl (m41 R)] := qbn hh' (fun v hv => by have := hP1 v hv; omega)
   have hP2 : ∀ b, ∀ v ∈ P1 ++ (lf, HObj.cells [bl b]) :: P, s0.next + 5 ≤ v.1 := by
    intro b v hv
    simp only [List.mem_append, List.mem_cons] at hv
    rcases hv with hv | rfl | hv
    ·have := hP1 v hv; omega
    ·exact hlf
    ·exact hP v hv
   rw [hres]
   obtain ⟨s2, j1, j2⟩ := hj _ hcf
   rw [hR] at hcf hh' hok' j2 ⊢
   cases hll : l with
   | nil =>
    rw [hll] at hh' hok' j2
    obtain ⟨s3, e3⟩ := qsn (fv := fv) (n := n) (E := E) a p s0 s2 t log tok' s'.next (k - 1) (P1 ++ (lf, .cells [bl false]) :: P) (hP2 false) (by omega) (by rw [j2]; show (s'.next, HObj.cells [bl false]) :: s'.heap = _; rw [hh']; simp only [r41, m41, t41, e41, qeR, List.append_assoc, List.cons_append])
    refine ⟨s3, _, qtX _ tok' _ _, ?_⟩
    show s41_0 (qae CP n E) n (.ptr lf 0) LPk 0 0 [] [] s' = _
    rw [j1, ← hLP, show k = k - 1 + 1 by omega]
    exact e3
   | cons o r =>
    rw [hll] at hh' hok' j2
    by_cases h20 : log.length = 2000
    ·have hr : r41 log (o :: r) = some none := if_pos h20
     rw [hr] at hh' ⊢
     have ha : qsD a sm m t log (o :: r) = (.z, [], 5) := if_pos h20
     rw [ha]
     refine ⟨s', .tuple [.agg [u8 0, i64 0, i64 0, i64 0, .sl 0 [] .full], .sl 0 [] .full, i64 5], rfl, ?_⟩
     have q8 : qaj (qae CP n E).E s' (s0.next + 1) = some ZC := by
      refine qbn (pre := (P1 ++ (lf, .cells [bl false]) :: P) ++ [(s0.next + 4, .cells [qbx tok' log]), (s0.next + 3, .cells [i64 5]), (s0.next + 2, .cells [.sl 0 [] .full])]) (H := (s0.next, .cells t.c) :: s0.heap) (by rw [hh']; simp only [m41, t41, e41, qeR, B41, List.append_assoc, List.cons_append, List.nil_append]) ?_
      intro v hv
      rw [List.mem_append] at hv
      rcases hv with hv | hv
      ·have := hP2 false v hv; omega
      ·simp only [List.mem_cons, List.not_mem_nil, or_false] at hv
       rcases hv with rfl | rfl | rfl <;> simp only <;> omega
     have q10 : qaj (qae CP n E).E s' (s0.next + 2) = some [.sl 0 [] .full] := by
      refine qbn (pre := (P1 ++ (lf, .cells [bl false]) :: P) ++ [(s0.next + 4, .cells [qbx tok' log]), (s0.next + 3, .cells [i64 5])]) (H := (s0.next + 1, .cells ZC) :: (s0.next, .cells t.c) :: s0.heap) (by rw [hh']; simp only [m41, t41, e41, qeR, B41, List.append_assoc, List.cons_append, List.nil_append]) ?_
      intro v hv
      rw [List.mem_append] at hv
      rcases hv with hv | hv
      ·have := hP2 false v hv; omega
      ·simp only [List.mem_cons, List.not_mem_nil, or_false] at hv
       rcases hv with rfl | rfl <;> simp only <;> omega
     have q12 : qaj (qae CP n E).E s' (s0.next + 3) = some [i64 5] := by
      refine qbn (pre := (P1 ++ (lf, .cells [bl false]) :: P) ++ [(s0.next + 4, .cells [qbx tok' log])]) (H := (s0.next + 2, .cells [.sl 0 [] .full]) :: (s0.next + 1, .cells ZC) :: (s0.next, .cells t.c) :: s0.heap) (by rw [hh']; simp only [m41, t41, e41, qeR, B41, List.append_assoc, List.cons_append, List.nil_append]) ?_
      intro v hv
      rw [List.mem_append] at hv
      rcases hv with hv | hv
      ·have := hP2 false v hv; omega
      ·simp only [List.mem_cons, List.not_mem_nil, or_false] at hv
       subst hv; simp only; omega
     have hzl : ldL ZC 0 (some 5) = some (.agg [u8 0, i64 0, i64 0, i64 0, .sl 0 [] .full]) := rfl
     show ((ldH (qae CP n E) s' (.ptr (s0.next + 1) 0) (some 5)).bind fun x55 => _) = _
     simp only [ldP q8, ldP q10, ldP q12, hzl, one, Option.bind_some]
    ·have hr : r41 log (o :: r) = some (some o) := if_neg h20
     rw [hr] at hh' hok' j2 ⊢
     have ha : qsD a sm m t log (o :: r) = qiG a sm m (qdB o.2.2 o.2.1 t) (log ++ [(o.1, o.2.1)]) := if_neg h20
     rw [ha]
     obtain ⟨r', s3, e3, her⟩ := IH o r hll h20 p E s0 s2 tok' s'.next k (P1 ++ (lf, .cells [bl true]) :: P) hC (hP2 true) (by omega) (by rw [j2]; exact Nat.lt_succ_self _) (by rw [j2]; show (s'.next, HObj.cells [bl true]) :: s'.heap = _; rw [hh']; simp only [m41, t41, e41, qeR, List.append_assoc, List.cons_append]) (by rw [j2]; exact hok') (by omega)
     refine ⟨s3, r', her, ?_⟩
     show s41_0 (qae CP n E) n (.ptr lf 0) LPk 0 0 [] [] s' = _
     rw [j1, ← hLP]
     exact e3
end
end Go.AI.Tryz
namespace Go.AI.Tryz
section
variable {ι : Type} {fv : ι → AVal} {C : ι → qaJ → ASt → Prop} {sm : Int → Bool}
theorem qvu (a : Ar) (t : Tm) (ht : Right a t) (h1 : a.ids.length ≤ 100000) (hs : t.size ≤ 100000) (hS : ∀ p, Stab (C p)) (hfa : ∀ p, qaK (fv p) = true) (hfw : ∀ p, qbj (fv p) = true) (hfe : ∀ p, qaA (fv p) = fv p) (hfc : ∀ p, AVal.cells none (fv p) = some [fv p]) (hsm : Ev fun n => SmH fv C sm n) :
  UC 41 (fun p => [a.v, t.v, fv p]) C (fun _ => qiL (qiG a sm 2001 t [])) := by
 refine UC.of (cf := cf41) (np := 3) (by kernel_rfl) (by kernel_rfl) (fun _ => rfl) (fun p => by simp only [List.all_cons, qan, hfw]; rfl) (fun p => by simp only [List.map_cons, qao, hfe]; rfl) hS (fun p lo => qo1 lo _)
  (((qmi a h1 hfa hfw hfe hfc hsm 2001 t [] (by omega) rfl ht hs).and ((ql2 t (by omega)).and (Ev.ge 2003))).mono fun n ⟨hl, hcp, hn⟩ p E s hC => ?_)
 let B : qaJ := B41 s t 0 (.sl 0 [] .full)
 let s20 : ASt := qaf (qaf (qaf (qaf (qaf s (.cells t.c)) (.cells ZC)) (.cells [.sl 0 [] .full])) (.cells [i64 0])) (.cells [.sl 0 [] .full])
 let s24 := qaf s20 (.cells [bl true])
 obtain ⟨r, s', e, her⟩ := hl p E s s24 0 (s.next + 5) n [] hC (fun v hv => by cases hv) (Nat.le_refl _) (Nat.lt_succ_self _) rfl (fun h => absurd rfl h) hn
 refine ⟨r, s', (s41_eq _ _ _ _ _ _).trans ?_, her⟩
 have hc6 : qaj (qae CP n E).E (qaf (qaf (qaf (qaf (qaf s (.cells t.c)) (.cells [u8 0, i64 0, i64 0, i64 0, .sl 0 [] .full])) (.cells [.sl 0 [] .full])) (.cells [i64 0])) (.cells [.sl 0 [] .full])) s.next = some t.c := by
  show qaj _ s20 s.next = _
  rw [qa0 (s := s20) rfl (by show s.next + 1 + 1 + 1 + 1 ≠ s.next; omega), qa0 rfl (by show s.next + 1 + 1 + 1 ≠ s.next; omega), qa0 rfl (by show s.next + 1 + 1 ≠ s.next; omega), qa0 rfl (by show s.next + 1 ≠ s.next; omega)]
  exact qaT rfl
 have w6 : stH (qaf (qaf (qaf (qaf (qaf s (.cells t.c)) (.cells [u8 0, i64 0, i64 0, i64 0, .sl 0 [] .full])) (.cells [.sl 0 [] .full])) (.cells [i64 0])) (.cells [.sl 0 [] .full])) (.ptr s.next 0) t.c = some s20 := by
  refine (qd1 (s := s20) (pre := [(s.next + 1 + 1 + 1 + 1, .cells [.sl 0 [] .full]), (s.next + 1 + 1 + 1, .cells [i64 0]), (s.next + 1 + 1, .cells [.sl 0 [] .full]), (s.next + 1, .cells ZC)]) (H := s.heap) (l := s.next) (o := 0) (zs := t.c) (cs := t.c) (new := t.c) rfl ?_ rfl rfl).trans rfl
  intro v hv
  simp only [List.mem_cons, List.not_mem_nil, or_false] at hv
  rcases hv with rfl | rfl | rfl | rfl <;> simp only <;> omega
 have w21 : stH (qaf s20 (.cells [bl false])) (.ptr s20.next 0) [bl true] = some s24 := qg8 _ _ _ _ _ rfl rfl
 unfold s41
 simp only [qfu, hcp, ldP hc6, w6, w21, qbd, qal, qaW, qrN, Option.bind_some, qab, qaS, cnd]
 rw [lp41]
 exact e
end
theorem qqm : Ev fun n => SmH (ι := Unit) (fun _ => .p (.func 42 [] [])) (fun _ _ _ => True) qdg n :=
 (every_u.and (Ev.ge 1)).mono fun n ⟨h, hn⟩ p E s0 s pre i _ _ _ _ => by
  rw [qeI CP hn]
  exact h (.ofNat (i + 1)) E s trivial
def qsE (a : Ar) (t : Tm) : Tm × List Rw × Int := if qbJ a t = 0 then qiG a qdg 2001 t [] else (.z, [], qbJ a t)
theorem qo2 (a : Ar) (t : Tm) (oa : a.Ok) (ok : t.Ok) (h1 : a.ids.length ≤ 100000) (hs : t.size ≤ 100000) : PC CP 13 [a.v, t.v] (qiL (qsE a t)) := by
 unfold qsE
 by_cases hc : qbJ a t = 0
 ·rw [if_pos hc]
  refine PC.of2 (cf := cf13) (np := 2) (args' := [a.v, t.v]) (by kernel_rfl) (by kernel_rfl) rfl (by simp only [List.all_cons, qan]; rfl) (by simp only [List.map_cons, qao]; rfl) (fun lo => qo1 lo _)
   (((qgM a t oa ok h1 hs).and (qvu a t ⟨hc, ok⟩ h1 hs (fun _ => Stab.true) (fun _ => rfl) (fun _ => rfl) (fun _ => rfl) (fun _ => rfl) qqm)).mono fun n ⟨hl, hd⟩ E s => ⟨qiL (qiG a qdg 2001 t []), s, (s13_eq _ _ _ _ _).trans ?_, qqZ _⟩)
  rw [hc] at hl
  have hd' : cl (qae CP n E) 41 [a.v, t.v, .p (.func 42 [] [])] s = some (qiL (qiG a qdg 2001 t []), s) := hd () E s trivial
  have l30 : ∀ a b c : AVal, qeb [a, b, c] 0 = some a := fun _ _ _ => rfl
  have l31 : ∀ a b c : AVal, qeb [a, b, c] 1 = some b := fun _ _ _ => rfl
  have x2 : ∀ a b c : AVal, ex (.tuple [a, b, c]) 2 = some c := fun _ _ _ => rfl
  unfold s13
  simp only [qfu, qmh, hl, hd', l30, l31, x2, qal, qaW, qaC, qay, qfD, qag, qbm, decide_true, Bool.not_true, qaa, cond_false, Option.map_some, Option.bind_some, qab, qah, qar, qas]
 ·rw [if_neg hc]
  refine PC.of2 (cf := cf13) (np := 2) (args' := [a.v, t.v]) (by kernel_rfl) (by kernel_rfl) rfl (by simp only [List.all_cons, qan]; rfl) (by simp only [List.map_cons, qao]; rfl) (fun lo => qo1 lo _)
   ((qgM a t oa ok h1 hs).mono fun n hl E s => ⟨.tuple [.agg [u8 0, i64 0, i64 0, i64 0, .sl 0 [] .full], .sl 0 [] .full, i64 (qbJ a t)], s, (s13_eq _ _ _ _ _).trans ?_, rfl⟩)
  unfold s13
  simp only [qfu, qmh, hl, hc, zbd, qj8, quy, qqk, qal, qaW, qay, qfD, qag, qbm, decide_false, Bool.not_false, qaa, cond_true, Option.map_some, Option.bind_some, qab, qah, qar, qas]
end Go.AI.Tryz
namespace Go.AI.Tryz
theorem qo3 (x y : List Rw) (hx : x.length ≤ 100000000) (hy : y.length ≤ 100000000) : PC CP 20 [qfd x, qfd y] (bl (decide (x = y))) := by
 refine PC.of2 (cf := cf20) (np := 2) (args' := [qfd x, qfd y]) (by kernel_rfl) (by kernel_rfl) rfl rfl rfl (fun _ => rfl) ((Ev.ge (x.length + 1)).mono fun n hn E s => ⟨bl (decide (x = y)), s, (s20_eq _ _ _ _ _).trans ?_, rfl⟩)
 unfold s20
 by_cases hlen : x.length = y.length
 ·have e1 : (Int.ofNat x.length = Int.ofNat y.length) := by rw [hlen]
  simp only [e1, qag, qbm, decide_true, Bool.not_true, qaa, cond_false, Option.map_some, Option.bind_some, qcV]
  unfold s20_0
  generalize hF : (fun (h7 : AVal → Res) (x6 : AVal) => _) = F
  have main : ∀ k j, j ≤ x.length → x.length - j < k → lp (fun _ => none) F k (i64 (.ofNat j)) = some (bl (decide (x.drop j = y.drop j)), s) := by
   intro k
   induction k with
   | zero => intro j _ h; omega
   | succ k ih =>
    intro j hj hk
    rw [qa9]
    rcases Nat.lt_or_ge j x.length with h | h
    ·have h' : j < y.length := by omega
     have ih2 := ih (j + 1) (by omega) (by omega)
     clear ih
     generalize lp _ F k = L at ih2 ⊢
     subst hF
     have hx1 := qd4 (c := rwC) (sz := 2) (fun _ => rfl) (qae CP n E) s (List.getElem?_eq_getElem h)
     have hy1 := qd4 (c := rwC) (sz := 2) (fun _ => rfl) (qae CP n E) s (List.getElem?_eq_getElem h')
     have hq := qo0 true x[j] y[j]
     have hq : eqs [1, 1] true (.agg ((rwC x[j]).map .p)) (.agg ((rwC y[j]).map .p)) = _ := hq
     simp only [of_lt.2 h, qcY h, qcY h', hx1, hy1, hq, qa7 (show j < 9223372036854775807 by omega), qag, qaE, qaH, decide_true, qaa, cond_true, Option.map_some, Option.bind_some, qab, qcV]
     rw [List.drop_eq_getElem_cons h, List.drop_eq_getElem_cons h']
     cases hb : decide (x[j].1 = y[j].1) && decide (x[j].2 = y[j].2) with
     | true =>
      simp only [Bool.not_true, cond_false]
      rw [ih2]
      simp only [Bool.and_eq_true, decide_eq_true_eq] at hb
      have he : x[j] = y[j] := Prod.ext hb.1 hb.2
      simp only [he, List.cons.injEq, true_and]
     | false =>
      simp only [Bool.not_false, cond_true]
      have hne : ¬ (x[j] = y[j]) := fun h => by rw [h] at hb; simp at hb
      simp only [List.cons.injEq, hne, false_and, decide_false]
    ·have e1 : x.drop j = [] := List.drop_eq_nil_of_le h
     have e2 : y.drop j = [] := List.drop_eq_nil_of_le (by omega)
     generalize lp _ F k = L
     subst hF
     have h3 : ¬ (Int.ofNat j < Int.ofNat x.length) := fun hh => by have := of_lt.1 hh; omega
     simp only [h3, e1, e2, qag, qaE, qaH, decide_true, decide_false, qaa, cond_false, Option.map_some, Option.bind_some, qcV]
  exact main n 0 (Nat.zero_le _) (by omega)
 ·have e1 : ¬ (Int.ofNat x.length = Int.ofNat y.length) := fun h => hlen (Int.ofNat.inj h)
  have e2 : ¬ (x = y) := fun h => hlen (by rw [h])
  simp only [e1, e2, qag, qbm, decide_false, Bool.not_false, qaa, cond_true, Option.map_some, Option.bind_some, qcV]
end Go.AI.Tryz
