/- Part 6: what the functions of the program compute, function by function. No condition. -/
import Derived.Test.YtgecccghlgpmjaaGreatPe
set_option linter.unusedVariables false
set_option linter.unusedSimpArgs false
namespace Go.AI
theorem AllN.imp {P P' : Tm → Prop} (h : ∀ t, P t → P' t) {t : Tm} (a : AllN P t) : AllN P' t := by
 induction t using Tm.ind with
 | h k n m i ks ih => exact .mk (h _ a.hd) fun u hu => ih u hu (a.kid hu)
end Go.AI
namespace Go.AI.Tryz
abbrev Big (t : Tm) : Prop := t.i ≤ 9223372036854775807
section
variable {ι : Type} {bv : ι → AVal} {Cb : ι → qaM → ASt → Prop} {Pb : Tm → Prop} {id : Int} {val : Tm}
def b1F (val : Tm) (t : Tm) : Tm := if t.k = 3 then val else if t.k = 4 then .az 1 (t.ks.headD .z) else t.ks.headD .z
theorem quB (hv : val.i = 0 ∧ val.ks = []) (h0 : 1 ≤ id) (hPb : ∀ t, Pb t → NmK id t ∧ Big t) (hS : ∀ p, Stab (Cb p)) (d : Nat)
  (hb : Ev fun n => ∀ p E s t, Cb p E s → Pb t → t.i = id → clv (qaf CP n E) (bv p) [t.v] s = some ((b1F val t).v, s)) :
  Ev fun n => ∀ l6 l9 p E s t l, qap E s l6 = some [i64 id] → qap E s l9 = some [bv p] → Cb p E s → t.size ≤ d → AllN Pb t → cl (qaf CP n E) 204 [t.v, i64 l, .ptr l6 0, .ptr l9 0] s = some (.tuple [(qcN id (w1F id val t)).v, bl true], s) := by
 refine Ev.succ ((hb.and (Ev.ge (d + 3))).mono fun n ⟨hb, hn⟩ l6 l9 p E s t l h6 h9 hc hs hA => ?_)
 rw [qbG]
 have h6' : qap (qaf CP n (s.heap ++ E)).E { s with heap := [], toks := [] } l6 = some [i64 id] := by rw [qaQ, qdH]; exact h6
 have h9' : qap (qaf CP n (s.heap ++ E)).E { s with heap := [], toks := [] } l9 = some [bv p] := by rw [qaQ, qdH]; exact h9
 have hb' := fun t => hb p (s.heap ++ E) { s with heap := [], toks := [] } t (hS p E s hc)
 suffices hrun : s204 (qaf CP n (s.heap ++ E)) n t.v (i64 l) (.ptr l6 0) (.ptr l9 0) { s with heap := [], toks := [] } = some (.tuple [(qcN id (w1F id val t)).v, bl true], { s with heap := [], toks := [] }) from
  qgf (cf := cf204) (np := 4) (args' := [t.v, i64 l, .ptr l6 0, .ptr l9 0]) (by kernel_rfl) (by kernel_rfl) rfl (by simp only [List.all_cons, qam]; rfl) (by simp only [List.map_cons, qao]; rfl) ((s204_eq _ _ _ _ _ _ _).trans hrun) (qcR _ _) (qc8 _ _ _)
 generalize ({ s with heap := [], toks := [] } : ASt) = s0 at h6' h9' hb' ⊢
 generalize s.heap ++ E = E0 at h6' h9' hb' ⊢
 unfold s204
 simp only [qak, Option.bind_some]
 unfold s204_1
 generalize hF : (fun (h9 : List AVal → List AVal → ASt → Res) (c6 c7 : List AVal) (s8 : ASt) => _) = F
 have hex : ∀ (t : Tm) (k : Nat), t.i ≠ id → Big t → lp (fun _ _ _ => none) F (k + 1) t.c [u8 0, i64 0, i64 0, i64 0, .sl 0 [] .full] s0 = some (.tuple [(qcN id t).v, bl true], s0) := by
  intro t k hne hbig
  rw [qbA]
  generalize lp _ F k = L
  subst hF
  unfold s204_0 qcN
  by_cases hgt : id < t.i
  ·have hw : qa5 .i64 (t.i - 1) = t.i - 1 := qbW (by omega) (by omega)
   have ho : ∀ z : Int, over t.c 3 [i64 z] = some (Tm.mk t.k t.n t.m z t.ks).c := fun _ => rfl
   simp only [hne, hgt, ldP h6', qb1, hw, ho, qbp, if_true, qak, qaX, qkD, qaC, qag, qaq, qa9, qbM, decide_true, decide_false, qab, cond_true, cond_false, qaw, Option.map_some, Option.bind_some]
  ·simp only [hne, hgt, ldP h6', qb1, if_false, qs2, qak, qaX, qkD, qaC, qag, qaq, qa9, qbM, decide_false, qab, cond_false, qaw, Option.map_some, Option.bind_some]
 have key : ∀ (d : Nat) (t : Tm) (k : Nat), t.size ≤ d → d + 1 < k → AllN Pb t → lp (fun _ _ _ => none) F k t.c [u8 0, i64 0, i64 0, i64 0, .sl 0 [] .full] s0 = some (.tuple [(qcN id (w1F id val t)).v, bl true], s0) := by
  intro d
  induction d with
  | zero => intro t k h; have := Tm.size_pos t; omega
  | succ d ih =>
   intro t k hs hk hA
   obtain ⟨k, rfl⟩ : ∃ m, k = m + 2 := ⟨k - 2, by omega⟩
   by_cases hi : t.i = id
   ·have hcl := hb' t hA.hd hi
    have hstep : lp (fun _ _ _ => none) F (k + 1) (b1F val t).c [u8 0, i64 0, i64 0, i64 0, .sl 0 [] .full] s0 = some (.tuple [(qcN id (w1F id val t)).v, bl true], s0) := by
     rw [qob, if_pos hi]
     unfold b1F
     rcases (hPb t hA.hd).1 hi with ⟨hk3, hu⟩ | ⟨hk4, _, _, u, hu⟩ | ⟨hk18, u, hu⟩
     ·rw [if_pos hk3, if_pos hk3]
      exact hex val k (by omega) (by show val.i ≤ _; omega)
     ·rw [if_neg (by omega), if_pos hk4, if_neg (by omega), if_pos hk4]
      exact hex (.az 1 (t.ks.headD .z)) k (by show (0 : Int) ≠ id; omega) (by show (0 : Int) ≤ _; omega)
     ·rw [if_neg (by omega), if_neg (by omega), if_neg (by omega), if_neg (by omega), if_pos hk18, hu]
      have hm : u ∈ t.ks := by rw [hu]; exact List.mem_cons_self ..
      have hlt := Tm.sizeL_mem hm
      have ht := Tm.size_ks t
      exact ih u (k + 1) (by omega) (by omega) (hA.kid hm)
    rw [qbA]
    generalize lp _ F (k + 1) = L at hstep ⊢
    subst hF
    simp only [hi, ldP h6', ldP h9', qb1, hcl, qak, qaX, qkD, qnY, qag, qaq, qa9, qbM, decide_true, qab, cond_true, qaw, Option.map_some, Option.bind_some, qaa]
    have hx : ldL [bv p] 0 none = some (bv p) := rfl
    exact hstep
   ·rw [qob, if_neg hi]
    exact hex t (k + 1) hi (hPb t hA.hd).2
 exact key d t n hs (by omega) hA
theorem qgy (hv : val.i = 0 ∧ val.ks = [] ∧ val.size = 1) (h0 : 1 ≤ id) (hPb : ∀ t, Pb t → NmK id t ∧ Big t) (hS : ∀ p, Stab (Cb p)) (hN : ∀ p E s o, Cb p E s → Cb p E (qae s o)) (hH : ∀ p E s s', Cb p E s → s'.heap = s.heap → s'.next = s.next → Cb p E s')
  (ha : ∀ p, qaJ (bv p) = true) (hw : ∀ p, qbl (bv p) = true) (hce : ∀ p, AVal.cells none (bv p) = some [bv p]) (he : ∀ p, qaB (bv p) = bv p)
  (t : Tm) (hs : t.size ≤ 900000) (hA : AllN Pb t)
  (hb : Ev fun n => ∀ p E s t, Cb p E s → Pb t → t.i = id → clv (qaf CP n E) (bv p) [t.v] s = some ((b1F val t).v, s)) :
  Ev fun n => ∀ p E s, Cb p E s → cl (qaf CP n E) 188 [t.v, i64 id, bv p] s = some ((woF id val t).v, s) := by
 have hNmA : ∀ t, AllN Pb t → AllN (NmK id) t := fun t h => h.imp fun t h => (hPb t h).1
 have hmap := qdU (κ := Nat × Nat × ι) (R := fun q (_ : Unit) E s => qap E s q.1 = some [i64 id] ∧ qap E s q.2.1 = some [bv q.2.2] ∧ Cb q.2.2 E s) (fv := fun q => .func 204 [] [.ptr q.1 0, .ptr q.2.1 0]) (by_ := fun x t l => (x, qcN id (w1F id val t), true)) (Ad := AllN Pb)
  (fun q x E s s' ⟨r1, r2, r3⟩ e1 e2 => ⟨by rw [qdJ e1]; exact r1, by rw [qdJ e1]; exact r2, hH _ E s s' r3 e1 e2⟩) (fun _ => rfl) (fun _ => rfl)
  (fun x t l hA _ => ⟨by
    have := qoe (id := id) (val := val) hv.2.2 t.size t (Nat.le_refl _) (hNmA t hA)
    simp only [qcN, Tm.size_ks, Tm.ks_mk] at this ⊢
    exact this, fun u hu => qof hv.2.1 Pb t.size t (Nat.le_refl _) (hNmA t hA) hA u (by simpa only [qcN, Tm.ks_mk] using hu)⟩) t.size
  (((quB ⟨hv.1, hv.2.1⟩ h0 hPb hS t.size hb).and (Ev.ge 1)).mono fun n ⟨h, hn⟩ q x E s t l h1 h2 h3 h4 ⟨r1, r2, r3⟩ => ⟨s, by
    rw [qgW CP hn]
    exact h q.1 q.2.1 q.2.2 E s t l r1 r2 r3 h1 h2, ⟨r1, r2, r3⟩, TF.refl s⟩)
 refine Ev.succ (hmap.mono fun n h p E s hc => ?_)
 rw [qbG]
 let s0 : ASt := { s with heap := [], toks := [] }
 have hc0 := hS p E s hc
 have hc1 := hN p _ _ (.cells [bv p]) (hN p _ _ (.cells [i64 id]) hc0)
 obtain ⟨s', e1, _, _⟩ := h (s0.next, (qae s0 (.cells [i64 id])).next, p) () (s.heap ++ E) (qae (qae s0 (.cells [i64 id])) (.cells [bv p])) t 0 (Nat.le_refl _) hA (by omega) (by omega) ⟨qcT _ _ _ _, qaF _ _ _, hc1⟩
 have e := qod (id := id) (val := val) ⟨hv.1, hv.2.1⟩ h0 t.size t 0 (Nat.le_refl _) (hNmA t hA)
 rw [e] at e1
 refine qgf (cf := cf188) (np := 3) (args' := [t.v, i64 id, bv p]) (v := (woF id val t).v) (s' := s') (by kernel_rfl) (by kernel_rfl) rfl (by simp only [List.all_cons, qam, hw]; rfl) (by simp only [List.map_cons, qao, he]; rfl) ((s188_eq _ _ _ _ _ _).trans ?_) (qao _) (qaT _ _)
 have haw : [bv p].all qaJ = true := by simp only [List.all_cons, ha, List.all_nil, Bool.and_self]
 have haw2 : [i64 id].all qaJ = true := rfl
 have e2 : cl (qaf CP n (s.heap ++ E)) 108 [t.v, i64 0, .func 204 [] [.ptr s.next 0, .ptr (qae { s with heap := [], toks := [] } (.cells [i64 id])).next 0]] (qae (qae { s with heap := [], toks := [] } (.cells [i64 id])) (.cells [bv p])) = some ((woF id val t).v, s') := e1
 unfold s188
 simp only [hce, haw, haw2, qbp, e2, qak, qaX, qaC, Option.bind_some, qaa, qaU, qa8, cnd]
def clR (x : Sc) (ok : Nm → Bool) (val : Tm) (t : Tm) : Option Tm := if t.k = 10 then (match t.ks with | [u] => if ok (qfm (Int.ofNat x.ids.length + 1) u) then some (woF (Int.ofNat x.ids.length + 1) val u) else none | _ => none) else none
theorem qrz (x : Vw) (hl : x.sz.length ≤ 1000000) : PC CP 187 [x.v] (i64 (Int.ofNat x.sz.length + 1)) := by
 refine PC.of2 (cf := cf187) (np := 1) (args' := [x.v]) (by kernel_rfl) (by kernel_rfl) rfl (by first | rfl | (simp only [List.all_cons, qam, qcs]; rfl)) (by first | rfl | (simp only [List.map_cons, qao, qct]; rfl)) (fun lo => by first | rfl | exact qaT lo _ | exact qbj lo _ | exact qc8 lo _ _) (Ev.mono (ev0) fun N _ E s => ⟨i64 (Int.ofNat x.sz.length + 1), s, (s187_eq _ _ _ _).trans ?_, (by first | rfl | exact qao _ | exact qa2 _ | exact qcR _ _)⟩)
 have hw : qa5 .i64 (Int.ofNat x.sz.length + 1) = Int.ofNat x.sz.length + 1 := qbW (by simp only [Int.ofNat_eq_natCast]; omega) (by simp only [Int.ofNat_eq_natCast]; omega)
 unfold s187
 simp only [hw, qay, qr2, qag, qaK, Option.map_some, Option.bind_some, qei]
theorem qe1 (x : Sc) (t : Tm) (g : Gd x t) (hs : t.size ≤ 900000) (f : Nat) (ok : Nm → Bool) (hok : ∀ y : Nm, PC CP f [y.v] (bl (ok y)))
  (hw : ∀ p, qbl (bv p) = true) (he : ∀ p, qaB (bv p) = bv p) (hS : ∀ p, Stab (Cb p))
  (hwo : ∀ u, t.k = 10 → t.ks = [u] → ok (qfm (Int.ofNat x.ids.length + 1) u) = true → Ev fun n => ∀ p E s, Cb p E s → cl (qaf CP n E) 188 [u.v, i64 (Int.ofNat x.ids.length + 1), bv p] s = some ((woF (Int.ofNat x.ids.length + 1) val u).v, s)) :
  Ev fun n => ∀ p E s, Cb p E s → cl (qaf CP n E) 148 [(vw x t).v, .p (.func f [] []), bv p] s = some (qeY (clR x ok val t), s) := by
 suffices Ev fun n => ∀ p E s, Cb p E s → ∃ s', s148 (qaf CP n E) n (vw x t).v (.p (.func f [] [])) (bv p) s = some (qeY (clR x ok val t), s') by
  refine Ev.succ (this.mono fun n h p E s hc => ?_)
  obtain ⟨s', e⟩ := h p _ _ (hS p E s hc)
  rw [qbG]
  exact qgf (cf := cf148) (np := 3) (args' := [(vw x t).v, .p (.func f [] []), bv p]) (by kernel_rfl) (by kernel_rfl) rfl (by simp only [List.all_cons, qcs, hw]; rfl) (by simp only [List.map_cons, qct, he]; rfl) ((s148_eq _ _ _ _ _ _).trans e) (qa2 _) (qbj _ _)
 have hsl : (vw x t).sz.length = x.ids.length := by simp only [vw, List.length_map]
 by_cases hk : t.k = 10
 ·cases g.sh with
  | new n0 m0 u =>
   have su : u.size < (Tm.new n0 m0 u).size := qa1 (by simp [Tm.ks])
   have e : clR x ok val (.new n0 m0 u) = if ok (qfm (Int.ofNat x.ids.length + 1) u) then some (woF (Int.ofNat x.ids.length + 1) val u) else none := rfl
   rw [e]
   clear e
   generalize hid : (Int.ofNat x.ids.length + 1 : Int) = id at hwo ⊢
   have hcell : PC CP 187 [(vw x (.new n0 m0 u)).v] (i64 id) := by
    have := qrz (vw x (.new n0 m0 u)) (by rw [hsl]; exact g.l)
    rw [hsl, hid] at this
    exact this
   have hwo' := hwo u rfl rfl
   have hokn := hok (qfm id u)
   generalize ok (qfm id u) = q at hwo' hokn ⊢
   cases q with
   | false =>
    refine (((qcQ (vw x (.new n0 m0 u)) 10).and (hcell.and ((qoa id u (by omega)).and (hokn.and (nothing_c.and (Ev.ge 1)))))).mono fun N ⟨h1, h2, h3, h4, h5, hn⟩ p E s hc => ⟨s, ?_⟩)
    obtain ⟨i0, l0⟩ := qcP (n := N) (E := E) (l := [u]) (u := u) rfl
    unfold s148 s148_0
    simp only [h1, i0, l0, h2, h3, qfh CP hn, h4, h5, Bool.false_eq_true, if_false, qak, qaX, qaC, qay, qbP, qbS, vwt, decide_true, Bool.not_true, Bool.not_false, qab, cond_true, cond_false, qaw, Option.bind_some, qaa, qai, qar, qas, qat, Tm.k_mk, Tm.ks_mk, qav, Option.getD_none, Option.isSome_none]
   | true =>
    refine (((qcQ (vw x (.new n0 m0 u)) 10).and (hcell.and ((qoa id u (by omega)).and (hokn.and ((hwo' rfl).and (Ev.ge 1)))))).mono fun N ⟨h1, h2, h3, h4, h5, hn⟩ p E s hc => ⟨s, ?_⟩)
    obtain ⟨i0, l0⟩ := qcP (n := N) (E := E) (l := [u]) (u := u) rfl
    have h5' := h5 p E s hc
    unfold s148 s148_0
    simp only [h1, i0, l0, h2, h3, qfh CP hn, h4, h5', if_true, qak, qaX, qaC, qay, qbP, qbS, vwt, decide_true, Bool.not_true, qab, cond_true, cond_false, qaw, Option.bind_some, qaa, qat, Tm.k_mk, Tm.ks_mk, qav, Option.getD_some, Option.isSome_some]
  | _ => simp only [Tm.k_mk] at hk; omega
 ·have e : clR x ok val t = none := by unfold clR; rw [if_neg hk]
  rw [e]
  refine ((qcQ (vw x t) 10).and nothing_c).mono fun N ⟨h1, h5⟩ p E s hc => ⟨s, ?_⟩
  unfold s148 s148_0
  simp only [h1, h5, hk, qak, qaX, qaC, qay, qbP, qbS, vwt, decide_false, Bool.not_false, qab, cond_true, qaw, Option.bind_some, qaa, qai, qar, qas, qat, qav, Option.getD_none, Option.isSome_none]
end
end Go.AI.Tryz
namespace Go.AI
theorem Sc.get_with {x : Sc} {y : Se} {i : Int} {e : Se} (h : x.get i = some e) : (x.with y).get i = some e := by
 obtain ⟨j, hi, hj⟩ := Sc.get_inv h
 have hjl := (List.getElem?_eq_some_iff.1 hj).1
 unfold Sc.get Sc.with
 rw [if_neg (by simp only [Int.ofNat_eq_natCast] at hi; omega)]
 have : (i - 1).toNat = j := by simp only [Int.ofNat_eq_natCast] at hi; omega
 rw [this]
 simp only [List.getElem?_append_left hjl]
 exact hj
theorem Sc.get_last {x : Sc} {y : Se} : (x.with y).get (Int.ofNat x.ids.length + 1) = some y := by
 unfold Sc.get Sc.with
 rw [if_neg (by simp only [Int.ofNat_eq_natCast]; omega)]
 have : (Int.ofNat x.ids.length + 1 - 1).toNat = x.ids.length := by simp only [Int.ofNat_eq_natCast]; omega
 rw [this]
 simp only [List.getElem?_concat_length]
theorem qdn {is : Tm → Int → Bool} (hl : ∀ t l l', is t l = is t l') {t : Tm} : ∀ {l : Int}, t.any is l = false → AllN (fun t => is t 0 = false) t := by
 induction t using Tm.ind with
 | h k n m i ks ih =>
  intro l h
  rw [Tm.any_eq, Bool.or_eq_false_iff] at h
  refine .mk (by rw [hl _ 0 l]; exact h.1) ?_
  have hk : ∀ (r : List Tm) (j : Nat), (∀ u ∈ r, u ∈ ks) → Tm.anyK is (decide ((Tm.mk k n m i ks).k = 11)) l j r = false → ∀ u ∈ r, AllN (fun t => is t 0 = false) u := by
   intro r
   induction r with
   | nil => intro j _ _ u hu; cases hu
   | cons v r ih2 =>
    intro j hm ha u hu
    simp only [Tm.anyK, Bool.or_eq_false_iff] at ha
    rcases List.mem_cons.1 hu with rfl | hu
    ·exact ih u (hm u (List.mem_cons_self ..)) ha.1
    ·exact ih2 (j + 1) (fun w hw => hm w (List.mem_cons_of_mem _ hw)) ha.2 u hu
  exact hk ks 0 (fun _ h => h) h.2
theorem AllN.and {P Q : Tm → Prop} {t : Tm} (h : AllN P t) (k : AllN Q t) : AllN (fun t => P t ∧ Q t) t := by
 induction t using Tm.ind with
 | h _ _ _ _ ks ih => exact .mk ⟨h.hd, k.hd⟩ fun u hu => ih u hu (h.kid hu) (k.kid hu)
end Go.AI
namespace Go.AI.Tryz
def qmv (id : Int) (t : Tm) : Prop := (t.i = id → t.k = 3 ∨ t.k = 4 ∨ t.k = 18 ∨ t.k = 16) ∧ Sh t ∧ Big t
theorem Tm.Ok.big {t : Tm} (h : t.Ok) : Big t := by cases h with | mk _ _ _ hi _ _ => exact hi.2
theorem qe2 {f : Tm → Bs → Bool} : ∀ {ks : List Tm} {ps : List Bs}, qbx f ks ps = true → ∀ u ∈ ks, ∃ b ∈ ps, f u b = true
 | [], _, _, u, hu => by cases hu
 | _ :: _, [], h, _, _ => by simp [qbx] at h
 | k :: ks, b :: ps, h, u, hu => by
  simp only [qbx, Bool.and_eq_true] at h
  rcases List.mem_cons.1 hu with rfl | hu
  ·exact ⟨b, List.mem_cons_self .., h.1⟩
  ·obtain ⟨c, hc, hf⟩ := qe2 h.2 u hu
   exact ⟨c, List.mem_cons_of_mem _ hc, hf⟩
theorem qeI {x : Sc} {t : Tm} {b : Bs} (h : qdt szF x t b = true) : (szF x t = (b.n, true)) ∨ (∃ i e, t = .cel i ∧ x.get i = some e ∧ e.ty.res.cell = true ∧ e.ty.res.n = b.n ∧ b.cell = true) ∨ (∃ u w, t = .obj u w ∧ szF x u = (b.n, true) ∧ szF (x.with ⟨⟨[], ⟨false, b.n⟩⟩, true⟩) w = (1, true) ∧ b.cell = true) := by
 unfold qdt at h
 split at h
 ·rename_i hc
  rw [Bool.and_eq_true] at h
  obtain ⟨hok, h⟩ := h
  have hsh := qn1 hok
  split at h
  ·rename_i h16
   cases hsh with
   | cel i =>
    simp only [Tm.i_mk] at h
    cases he : x.get i with
    | none => rw [he] at h; cases h
    | some e =>
     rw [he] at h
     simp only [Bool.and_eq_true, decide_eq_true_eq] at h
     exact .inr (.inl ⟨i, e, rfl, he, h.1, h.2, hc⟩)
   | _ => simp only [Tm.k_mk] at h16; omega
  ·split at h
   ·rename_i h17
    cases hsh with
    | obj u w =>
     simp only [Tm.ks_mk, Bool.and_eq_true, decide_eq_true_eq] at h
     exact .inr (.inr ⟨u, w, rfl, Prod.ext h.1.2 h.1.1, Prod.ext h.2.2 h.2.1, hc⟩)
    | _ => simp only [Tm.k_mk] at h17; omega
   ·cases h
 ·simp only [Bool.and_eq_true, decide_eq_true_eq] at h
  exact .inl (Prod.ext h.2 h.1)
def Cl (x : Sc) (id : Int) : Prop := ∃ e, x.get id = some e ∧ e.ty.res.cell = true ∧ e.arg = false
theorem Cl.with {x : Sc} {id : Int} (h : Cl x id) (y : Se) : Cl (x.with y) id := by
 obtain ⟨e, h1, h2⟩ := h
 exact ⟨e, Sc.get_with h1, h2⟩
theorem Cl.size {x : Sc} {id n : Int} (h : Cl x id) : Cl { x with size := n } id := h
theorem qlN {id : Int} (h0 : 1 ≤ id) : ∀ (d : Nat) (t : Tm) (x : Sc), t.size ≤ d → t.Ok → Cl x id → ((szF x t).2 = true ∨ ∃ b, qdt szF x t b = true) → AllN (qmv id) t
 | 0, t, _, h, _, _, _ => by have := Tm.size_pos t; omega
 | d + 1, t, x, hd, hok, hc, h => by
  have hb := Tm.Ok.big hok
  have IH : ∀ u ∈ t.ks, ∀ y, Cl y id → ((szF y u).2 = true ∨ ∃ b, qdt szF y u b = true) → AllN (qmv id) u := fun u hu y hy hs => qlN h0 d u y (by have := qa1 hu; omega) (hok.kids u hu) hy hs
  have harg : ∀ b, qdt szF x t b = true → (szF x t).2 = true ∨ (∃ i, t = .cel i) ∨ (∃ u w, t = .obj u w ∧ szF x u = (b.n, true) ∧ szF (x.with ⟨⟨[], ⟨false, b.n⟩⟩, true⟩) w = (1, true)) := by
   intro b hb
   rcases qeI hb with h | ⟨i, e, h, _⟩ | ⟨u, w, h1, h2, h3, _⟩
   ·exact .inl (by rw [h])
   ·exact .inr (.inl ⟨i, h⟩)
   ·exact .inr (.inr ⟨u, w, h1, h2, h3⟩)
  have hcase : (szF x t).2 = true ∨ (∃ i, t = .cel i) ∨ (∃ u w, ∃ b : Bs, t = .obj u w ∧ szF x u = (b.n, true) ∧ szF (x.with ⟨⟨[], ⟨false, b.n⟩⟩, true⟩) w = (1, true)) := by
   rcases h with h | ⟨b, h⟩
   ·exact .inl h
   ·rcases harg b h with h | h | ⟨u, w, h⟩
    ·exact .inl h
    ·exact .inr (.inl h)
    ·exact .inr (.inr ⟨u, w, b, h⟩)
  obtain ⟨e, he, hcl, hna⟩ := hc
  have hc : Cl x id := ⟨e, he, hcl, hna⟩
  rcases hcase with h | ⟨i, rfl⟩ | ⟨u, w, b, rfl, h1, h2⟩
  ·have hsh := qdk h
   cases hsh with
   | num n m => exact .mk ⟨fun hi => by simp only [Tm.i_mk] at hi; omega, .num .., hb⟩ fun u hu => by cases hu
   | use i ks =>
    rw [qgs] at h
    refine .mk ⟨fun hi => ?_, .use .., hb⟩ fun u hu => ?_
    ·simp only [Tm.i_mk] at hi
     subst hi
     rw [he] at h
     simp [hcl] at h
    ·simp only [Bool.and_eq_true] at h
     obtain ⟨b, _, hf⟩ := qe2 h.2.2.2 u hu
     exact IH u hu x hc (.inr ⟨b, hf⟩)
   | get i => exact .mk ⟨fun hi => .inl rfl, .get .., hb⟩ fun u hu => by cases hu
   | put i u =>
    rw [qeD, Bool.and_eq_true, is2_iff] at h
    exact .mk ⟨fun hi => .inr (.inl rfl), .put .., hb⟩ fun v hv => by
     simp only [Tm.ks_mk, List.mem_singleton] at hv
     subst hv
     exact IH v (by simp [Tm.ks]) x hc (.inl (by rw [h.2]))
   | op n m u w =>
    rw [qeE] at h
    have hin : is2 (szF x u) m = true ∧ is2 (szF x w) m = true := by
     split at h
     ·simp only [Bool.and_eq_true] at h ⊢; exact h.2
     ·split at h
      ·simp only [Bool.and_eq_true] at h ⊢; exact h.2
      ·cases h
    rw [is2_iff, is2_iff] at hin
    exact .mk ⟨fun hi => by simp only [Tm.i_mk] at hi; omega, .op .., hb⟩ fun v hv => by
     simp only [Tm.ks_mk, List.mem_cons, List.not_mem_nil, or_false] at hv
     rcases hv with rfl | rfl
     ·exact IH v (by simp [Tm.ks]) x hc (.inl (by rw [hin.1]))
     ·exact IH v (by simp [Tm.ks]) x hc (.inl (by rw [hin.2]))
   | az n u =>
    rw [qeF, Bool.and_eq_true] at h
    exact .mk ⟨fun hi => by simp only [Tm.i_mk] at hi; omega, .az .., hb⟩ fun v hv => by
     simp only [Tm.ks_mk, List.mem_singleton] at hv
     subst hv
     exact IH v (by simp [Tm.ks]) x hc (.inl h.1)
   | seq u w =>
    rw [qbO, Bool.and_eq_true, is2_iff] at h
    exact .mk ⟨fun hi => by simp only [Tm.i_mk] at hi; omega, .seq .., hb⟩ fun v hv => by
     simp only [Tm.ks_mk, List.mem_cons, List.not_mem_nil, or_false] at hv
     rcases hv with rfl | rfl
     ·exact IH v (by simp [Tm.ks]) x hc (.inl (by rw [h.2]))
     ·exact IH v (by simp [Tm.ks]) x hc (.inl h.1)
   | ite c u w =>
    rw [qch, Bool.and_eq_true, Bool.and_eq_true, is2_iff] at h
    exact .mk ⟨fun hi => by simp only [Tm.i_mk] at hi; omega, .ite .., hb⟩ fun v hv => by
     simp only [Tm.ks_mk, List.mem_cons, List.not_mem_nil, or_false] at hv
     rcases hv with rfl | rfl | rfl
     ·exact IH v (by simp [Tm.ks]) x hc (.inl h.2)
     ·exact IH v (by simp [Tm.ks]) x hc (.inl h.1.1)
     ·exact IH v (by simp [Tm.ks]) x hc (.inl (by rw [h.1.2]))
   | whl u w =>
    rw [qfi, Bool.and_eq_true, is2_iff] at h
    exact .mk ⟨fun hi => by simp only [Tm.i_mk] at hi; omega, .whl .., hb⟩ fun v hv => by
     simp only [Tm.ks_mk, List.mem_cons, List.not_mem_nil, or_false] at hv
     rcases hv with rfl | rfl
     ·exact IH v (by simp [Tm.ks]) x hc (.inl h.1)
     ·exact IH v (by simp [Tm.ks]) x hc (.inl (by rw [h.2]))
   | new n m u =>
    rw [qeG, Bool.and_eq_true] at h
    exact .mk ⟨fun hi => by simp only [Tm.i_mk] at hi; omega, .new .., hb⟩ fun v hv => by
     simp only [Tm.ks_mk, List.mem_singleton] at hv
     subst hv
     exact IH v (by simp [Tm.ks]) _ (hc.with _) (.inl h.1)
   | lbl u w =>
    rw [qdZ, Bool.and_eq_true, is2_iff] at h
    exact .mk ⟨fun hi => by simp only [Tm.i_mk] at hi; omega, .lbl .., hb⟩ fun v hv => by
     simp only [Tm.ks_mk, List.mem_cons, List.not_mem_nil, or_false] at hv
     rcases hv with rfl | rfl
     ·exact IH v (by simp [Tm.ks]) { x with size := x.size + 1 } hc (.inl h.1)
     ·exact IH v (by simp [Tm.ks]) x hc (.inl (by rw [h.2]))
   | jmp n => exact .mk ⟨fun hi => by simp only [Tm.i_mk] at hi; omega, .jmp .., hb⟩ fun u hu => by cases hu
   | cho u w =>
    rw [qd0, Bool.and_eq_true, is2_iff] at h
    exact .mk ⟨fun hi => by simp only [Tm.i_mk] at hi; omega, .cho .., hb⟩ fun v hv => by
     simp only [Tm.ks_mk, List.mem_cons, List.not_mem_nil, or_false] at hv
     rcases hv with rfl | rfl
     ·exact IH v (by simp [Tm.ks]) x hc (.inl h.1)
     ·exact IH v (by simp [Tm.ks]) x hc (.inl (by rw [h.2]))
   | hang => exact .mk ⟨fun hi => by simp only [Tm.i_mk] at hi; omega, .hang, hb⟩ fun u hu => by cases hu
   | val i =>
    rw [qht] at h
    refine .mk ⟨fun hi => ?_, .val .., hb⟩ fun u hu => by cases hu
    simp only [Tm.i_mk] at hi
    subst hi
    rw [he] at h
    simp [hna] at h
   | cel i => rw [qfj] at h; cases h
   | obj u w => rw [qd1] at h; cases h
   | ntc n i u =>
    rw [qd2, Bool.and_eq_true] at h
    exact .mk ⟨fun hi => .inr (.inr (.inl rfl)), .ntc .., hb⟩ fun v hv => by
     simp only [Tm.ks_mk, List.mem_singleton] at hv
     subst hv
     exact IH v (by simp [Tm.ks]) x hc (.inl h.1)
  ·exact .mk ⟨fun hi => .inr (.inr (.inr rfl)), .cel .., hb⟩ fun u hu => by cases hu
  ·exact .mk ⟨fun hi => by simp only [Tm.i_mk] at hi; omega, .obj .., hb⟩ fun v hv => by
    simp only [Tm.ks_mk, List.mem_cons, List.not_mem_nil, or_false] at hv
    rcases hv with rfl | rfl
    ·exact IH v (by simp [Tm.ks]) x hc (.inl (by rw [h1]))
    ·exact IH v (by simp [Tm.ks]) _ (hc.with _) (.inl (by rw [h2]))
end Go.AI.Tryz
namespace Go.AI.Tryz
def okU (y : Nm) : Bool := !y.a && (!y.p && !y.h)
def qrA (y : Nm) : Bool := y.a && (!y.p && !y.h)
def qrB (y : Nm) : Bool := !y.a && (y.p && !y.h)
theorem quC (y : Nm) : PC CP 149 [y.v] (bl (okU y)) := by
 refine PC.of2 (cf := cf149) (np := 1) (args' := [y.v]) (by kernel_rfl) (by kernel_rfl) rfl (by first | rfl | (simp only [List.all_cons, qam, qcs]; rfl)) (by first | rfl | (simp only [List.map_cons, qao, qct]; rfl)) (fun lo => by first | rfl | exact qaT lo _ | exact qbj lo _ | exact qc8 lo _ _) (Ev.mono (ev0) fun N _ E s => ⟨bl (okU y), s, (s149_eq _ _ _ _).trans ?_, (by first | rfl | exact qao _ | exact qa2 _ | exact qcR _ _)⟩)
 obtain ⟨a, p, h⟩ := y
 cases a <;> cases p <;> cases h <;> rfl
theorem qs6 (y : Nm) : PC CP 150 [y.v] (bl (qrA y)) := by
 refine PC.of2 (cf := cf150) (np := 1) (args' := [y.v]) (by kernel_rfl) (by kernel_rfl) rfl (by first | rfl | (simp only [List.all_cons, qam, qcs]; rfl)) (by first | rfl | (simp only [List.map_cons, qao, qct]; rfl)) (fun lo => by first | rfl | exact qaT lo _ | exact qbj lo _ | exact qc8 lo _ _) (Ev.mono (ev0) fun N _ E s => ⟨bl (qrA y), s, (s150_eq _ _ _ _).trans ?_, (by first | rfl | exact qao _ | exact qa2 _ | exact qcR _ _)⟩)
 obtain ⟨a, p, h⟩ := y
 cases a <;> cases p <;> cases h <;> rfl
theorem qs7 (y : Nm) : PC CP 153 [y.v] (bl (qrB y)) := by
 refine PC.of2 (cf := cf153) (np := 1) (args' := [y.v]) (by kernel_rfl) (by kernel_rfl) rfl (by first | rfl | (simp only [List.all_cons, qam, qcs]; rfl)) (by first | rfl | (simp only [List.map_cons, qao, qct]; rfl)) (fun lo => by first | rfl | exact qaT lo _ | exact qbj lo _ | exact qc8 lo _ _) (Ev.mono (ev0) fun N _ E s => ⟨bl (qrB y), s, (s153_eq _ _ _ _).trans ?_, (by first | rfl | exact qao _ | exact qa2 _ | exact qcR _ _)⟩)
 obtain ⟨a, p, h⟩ := y
 cases a <;> cases p <;> cases h <;> rfl
theorem of_u : UC 136 (fun p : Int × Int × Int × List Tm => [u8 p.1, i64 p.2.1, i64 p.2.2.1, kv p.2.2.2]) (fun _ _ _ => True) (fun p => (Tm.mk p.1 p.2.1 p.2.2.1 0 p.2.2.2).v) := by
 refine UC.of (cf := cf136) (np := 4) (by kernel_rfl) (by kernel_rfl) (fun _ => rfl) (fun _ => rfl) (fun _ => rfl) (fun _ => Stab.pure _) (fun p lo => qaT lo _) (Ev.of fun n p E s _ => ⟨(Tm.mk p.1 p.2.1 p.2.2.1 0 p.2.2.2).v, s, (s136_eq _ _ _ _ _ _ _).trans ?_, qao _⟩)
 obtain ⟨k, n, m, l⟩ := p
 unfold s136
 have h : bd [u8 0, i64 0, i64 0, i64 0, .sl 0 [] .full] [(0, none, .c (u8 k)), (1, none, .c (i64 n)), (2, none, .c (i64 m)), (4, none, .c (kv l))] = some (Tm.mk k n m 0 l).v := by rw [Tm.v_eq]; rfl
 simp only [h, qak, qaX, qaC, Option.bind_some]
theorem one_u : UC 142 (fun u : Tm => [u.v]) (fun _ _ _ => True) (fun u => (Tm.az 1 u).v) := by
 refine UC.of (cf := cf142) (np := 1) (by kernel_rfl) (by kernel_rfl) (fun _ => rfl) (fun u => by simp only [List.all_cons, qam]; rfl) (fun u => by simp only [List.map_cons, qao]; rfl) (fun _ => Stab.pure _) (fun p lo => qaT lo _) (of_u.mono fun n h u E s _ => ⟨(Tm.az 1 u).v, s, (s142_eq _ _ _ _).trans ?_, qao _⟩)
 have h' := qmt (E := E) 6 1 0 [u] .full (fun E s => h (6, 1, 0, [u]) E s trivial) s
 simp only [List.length_cons, List.length_nil, Nat.zero_add] at h'
 unfold s142
 simp only [qrj, h', qak, qaX, qaC, Option.bind_some, qaa]
theorem quD (y : Vw) : UC 151 (fun p : Tm × Nat => [p.1.v, .ptr p.2 0]) (fun p E s => qap E s p.2 = some y.c) (fun _ => (Tm.num y.t.m y.t.n).v) := by
 refine UC.of (cf := cf151) (np := 2) (by kernel_rfl) (by kernel_rfl) (fun _ => rfl) (fun _ => by simp only [List.all_cons, qam]; rfl) (fun _ => by simp only [List.map_cons, qao]; rfl) (fun p => Stab.at p.2 _) (fun p lo => qaT lo _) ((qn3 y.t.m y.t.n).mono fun n h p E s hc => ⟨(Tm.num y.t.m y.t.n).v, s, (s151_eq _ _ _ _ _).trans ?_, qao _⟩)
 have hc' : qap (qaf CP n E).E s p.2 = some y.c := by rw [qaQ]; exact hc
 unfold s151
 simp only [ldP hc', Nat.zero_add, h, qak, qaX, qaC, qjH, qoO, Option.bind_some, qaa, qbD]
theorem wr1_u : UC 152 (fun t : Tm => [t.v]) (fun t _ _ => (t.k = 4 ∨ t.k = 18) ∧ ∃ u, t.ks = [u]) (fun t => (b1F .z t).v) := by
 refine UC.of (cf := cf152) (np := 1) (by kernel_rfl) (by kernel_rfl) (fun _ => rfl) (fun u => by simp only [List.all_cons, qam]; rfl) (fun u => by simp only [List.map_cons, qao]; rfl) (fun _ => Stab.pure _) (fun p lo => qaT lo _) (one_u.mono fun n h t E s ⟨hk, u, hu⟩ => ⟨(b1F .z t).v, s, (s152_eq _ _ _ _).trans ?_, qao _⟩)
 obtain ⟨i0, l0⟩ := qcP (n := n) (E := E) (l := [u]) (u := u) rfl
 unfold s152 b1F
 rcases hk with hk | hk
 ·simp only [hk, hu, i0, l0, h u E s trivial, List.headD_cons, if_true, if_false, qak, qaX, qgr, qpA, qaC, qag, qaq, Int.reduceEq, decide_false, qab, cond_false, Option.map_some, Option.bind_some, qaa]
 ·simp only [hk, hu, i0, l0, List.headD_cons, if_false, qak, qaX, qgr, qpA, qaC, qag, qaq, Int.reduceEq, decide_true, qab, cond_true, Option.map_some, Option.bind_some, qaa]
abbrev ini (t : Tm) : Tm := .num t.m t.n
abbrev cid (x : Sc) : Int := Int.ofNat x.ids.length + 1
theorem qir (x : Sc) : 1 ≤ cid x := by
 have : (0 : Int) ≤ Int.ofNat x.ids.length := Int.natCast_nonneg _
 show (1 : Int) ≤ Int.ofNat x.ids.length + 1
 omega
theorem qgz {x : Sc} {t u : Tm} (g : Gd x t) (hk : t.k = 10) (hu : t.ks = [u]) : AllN (qmv (cid x)) u ∧ u.size ≤ t.size ∧ u.Ok := by
 have hsz := g.sz (by omega) (by omega)
 have hm : u ∈ t.ks := by rw [hu]; exact List.mem_cons_self ..
 have hlt := qa1 hm
 refine ⟨?_, by omega, g.ok.kids u hm⟩
 have gsh := g.sh
 cases gsh with
 | new n m v =>
  simp only [Tm.ks_mk, List.cons.injEq, and_true] at hu
  subst hu
  rw [qeG, Bool.and_eq_true] at hsz
  exact qlN (qir x) v.size v _ (Nat.le_refl _) (g.ok.kids v hm) ⟨_, Sc.get_last, rfl, rfl⟩ (.inl hsz.1)
 | _ => simp only [Tm.k_mk] at hk; omega
theorem qs8 (id : Int) (t : Tm) (l l' : Int) : isA id t l = isA id t l' := rfl
theorem qs9 (id : Int) (t : Tm) (l l' : Int) : isP id t l = isP id t l' := rfl
theorem qrC (id : Int) (t : Tm) (l l' : Int) : isH id t l = isH id t l' := rfl
def PbU (id : Int) (t : Tm) : Prop := t.i ≠ id ∧ Big t
def PbR (id : Int) (t : Tm) : Prop := (t.i = id → t.k = 3 ∧ t.ks = []) ∧ Big t
def PbW (id : Int) (t : Tm) : Prop := (t.i = id → (t.k = 4 ∧ t.n = 0 ∧ t.m = 0 ∧ ∃ u, t.ks = [u]) ∨ (t.k = 18 ∧ ∃ u, t.ks = [u])) ∧ Big t
theorem qta {t : Tm} (h : Sh t) (hk : t.k = 3) : t.ks = [] := by
 cases h with
 | get i => rfl
 | _ => simp only [Tm.k_mk] at hk; omega
theorem qtb {t : Tm} (h : Sh t) (hk : t.k = 4) : t.n = 0 ∧ t.m = 0 ∧ ∃ u, t.ks = [u] := by
 cases h with
 | put i u => exact ⟨rfl, rfl, u, rfl⟩
 | _ => simp only [Tm.k_mk] at hk; omega
theorem qtc {t : Tm} (h : Sh t) (hk : t.k = 18) : ∃ u, t.ks = [u] := by
 cases h with
 | ntc n i u => exact ⟨u, rfl⟩
 | _ => simp only [Tm.k_mk] at hk; omega
theorem allU {id : Int} {u : Tm} (h : AllN (qmv id) u) (hok : okU (qfm id u) = true) : AllN (PbU id) u := by
 simp only [okU, qfm, Bool.and_eq_true, Bool.not_eq_true'] at hok
 obtain ⟨h1, h2, h3⟩ := hok
 refine (((qdn (qs8 id) h1).and (qdn (qs9 id) h2)).and ((qdn (qrC id) h3).and h)).imp fun t ⟨⟨a, p⟩, q, hc, hsh, hb⟩ => ⟨fun hi => ?_, hb⟩
 simp only [isA, isP, isH, hi, decide_true, Bool.true_and, Bool.or_eq_false_iff, decide_eq_false_iff_not] at a p q
 rcases hc hi with k | k | k | k
 ·exact a k
 ·exact p.1 k
 ·exact p.2 k
 ·exact q k
theorem allR {id : Int} {u : Tm} (h : AllN (qmv id) u) (hok : qrA (qfm id u) = true) : AllN (PbR id) u := by
 simp only [qrA, qfm, Bool.and_eq_true, Bool.not_eq_true'] at hok
 obtain ⟨_, h2, h3⟩ := hok
 refine (((qdn (qs9 id) h2)).and ((qdn (qrC id) h3).and h)).imp fun t ⟨p, q, hc, hsh, hb⟩ => ⟨fun hi => ?_, hb⟩
 simp only [isP, isH, hi, decide_true, Bool.true_and, Bool.or_eq_false_iff, decide_eq_false_iff_not] at p q
 rcases hc hi with k | k | k | k
 ·exact ⟨k, qta hsh k⟩
 ·exact absurd k p.1
 ·exact absurd k p.2
 ·exact absurd k q
theorem allW {id : Int} {u : Tm} (h : AllN (qmv id) u) (hok : qrB (qfm id u) = true) : AllN (PbW id) u := by
 simp only [qrB, qfm, Bool.and_eq_true, Bool.not_eq_true'] at hok
 obtain ⟨h1, _, h3⟩ := hok
 refine (((qdn (qs8 id) h1)).and ((qdn (qrC id) h3).and h)).imp fun t ⟨a, q, hc, hsh, hb⟩ => ⟨fun hi => ?_, hb⟩
 simp only [isA, isH, hi, decide_true, Bool.true_and, decide_eq_false_iff_not] at a q
 rcases hc hi with k | k | k | k
 ·exact absurd k a
 ·exact .inl ⟨k, qtb hsh k⟩
 ·exact .inr ⟨k, qtc hsh k⟩
 ·exact absurd k q
def qkP (x : Sc) (t : Tm) : Option Tm := clR x okU (ini t) t
def qrD (x : Sc) (t : Tm) : Option Tm := clR x qrA (ini t) t
def qog (x : Sc) (t : Tm) : Option Tm := clR x qrB (ini t) t
theorem qpK (x : Sc) (t : Tm) (g : Gd x t) (hs : t.size ≤ 900000) : RuC 85 x t (qkP x t) := by
 have hcl := qe1 (ι := Unit) (bv := fun _ => .p .nilFunc) (Cb := fun _ _ _ => True) (val := ini t) x t g hs 149 okU quC (fun _ => rfl) (fun _ => rfl) (fun _ => Stab.pure _) (fun u hk hu hok => by
  obtain ⟨h1, h2, h3⟩ := qgz g hk hu
  exact qgy (ι := Unit) (bv := fun _ => .p .nilFunc) (Cb := fun _ _ _ => True) (Pb := PbU (cid x)) (id := cid x) (val := ini t) ⟨rfl, rfl, rfl⟩ (qir x) (fun t h => ⟨fun hi => absurd hi h.1, h.2⟩) (fun _ => Stab.pure _) (fun _ _ _ _ _ => trivial) (fun _ _ _ _ _ _ _ => trivial) (fun _ => rfl) (fun _ => rfl) (fun _ => rfl) (fun _ => rfl) u (by omega) (allU h1 hok)
   (Ev.of fun n p E s t _ h hi => absurd hi h.1))
 refine RuC.of (cf := cf85) (by kernel_rfl) (by kernel_rfl) (hcl.mono fun N h E s => ⟨s, (s85_eq _ _ _ _).trans ?_⟩)
 have h' : cl (qaf CP N E) 148 [(vw x t).v, .p (.func 149 [] []), .p .nilFunc] s = some (qeY (qkP x t), s) := h () E s trivial
 unfold s85
 simp only [h', qak, qaX, qaC, qay, qbP, Option.bind_some, qaa, qai, qar, qas, qav]
theorem qtd (x : Sc) (t : Tm) (g : Gd x t) (hs : t.size ≤ 900000) : RuC 86 x t (qrD x t) := by
 have hcl := qe1 (ι := Nat) (bv := fun l => .func 151 [] [.ptr l 0]) (Cb := fun l E s => qap E s l = some (vw x t).c ∧ l < s.next) (val := ini t) x t g hs 150 qrA qs6 (fun _ => rfl) (fun _ => rfl) (fun l => (Stab.at l _).and (fun E s h => h)) (fun u hk hu hok => by
  obtain ⟨h1, h2, h3⟩ := qgz g hk hu
  exact qgy (ι := Nat) (bv := fun l => .func 151 [] [.ptr l 0]) (Cb := fun l E s => qap E s l = some (vw x t).c ∧ l < s.next) (Pb := PbR (cid x)) (id := cid x) (val := ini t) ⟨rfl, rfl, rfl⟩ (qir x) (fun t h => ⟨fun hi => .inl (h.1 hi), h.2⟩) (fun l => (Stab.at l _).and (fun E s h => h))
   (fun l E s o h => ⟨by
    have := qbf (E := E) (s := qae s o) (l := l) (m := s.next) (o := o) (H := s.heap) rfl (by omega)
    rw [this]
    exact h.1, Nat.lt_succ_of_lt h.2⟩) (fun l E s s' h e1 e2 => ⟨by rw [qdJ e1]; exact h.1, by rw [e2]; exact h.2⟩) (fun _ => rfl) (fun _ => rfl) (fun _ => rfl) (fun _ => rfl) u (by omega) (allR h1 hok)
   (((quD (vw x t)).and (Ev.ge 1)).mono fun n ⟨h, hn⟩ l E s t' hc hp hi => by
    rw [qgW CP hn]
    have e : b1F (ini t) t' = ini t := by unfold b1F; rw [if_pos (hp.1 hi).1]
    rw [e]
    exact h (t', l) E s hc.1))
 refine RuC.of (cf := cf86) (by kernel_rfl) (by kernel_rfl) (hcl.mono fun N h E s => ⟨qae s (.cells (vw x t).c), (s86_eq _ _ _ _).trans ?_⟩)
 have h' : cl (qaf CP N E) 148 [(vw x t).v, .p (.func 150 [] []), .func 151 [] [.ptr s.next 0]] (qae s (.cells (vw x t).c)) = some (qeY (qrD x t), qae s (.cells (vw x t).c)) := h s.next E _ ⟨qaF _ _ _, Nat.lt_succ_self _⟩
 unfold s86
 simp only [h', qak, qaX, qaC, qay, qbP, qcD, Option.bind_some, qaa, qai, qar, qas, qaU, qa8, cnd, qce, qav]
theorem qrE (x : Sc) (t : Tm) (g : Gd x t) (hs : t.size ≤ 900000) : RuC 87 x t (qog x t) := by
 have hcl := qe1 (ι := Unit) (bv := fun _ => .p (.func 152 [] [])) (Cb := fun _ _ _ => True) (val := ini t) x t g hs 153 qrB qs7 (fun _ => rfl) (fun _ => rfl) (fun _ => Stab.pure _) (fun u hk hu hok => by
  obtain ⟨h1, h2, h3⟩ := qgz g hk hu
  exact qgy (ι := Unit) (bv := fun _ => .p (.func 152 [] [])) (Cb := fun _ _ _ => True) (Pb := PbW (cid x)) (id := cid x) (val := ini t) ⟨rfl, rfl, rfl⟩ (qir x) (fun t h => ⟨fun hi => .inr (h.1 hi), h.2⟩) (fun _ => Stab.pure _) (fun _ _ _ _ _ => trivial) (fun _ _ _ _ _ _ _ => trivial) (fun _ => rfl) (fun _ => rfl) (fun _ => rfl) (fun _ => rfl) u (by omega) (allW h1 hok)
   ((wr1_u.and (Ev.ge 1)).mono fun n ⟨h, hn⟩ p E s t' _ hp hi => by
    rw [qfh CP hn]
    have hq := hp.1 hi
    have e : b1F (ini t) t' = b1F .z t' := by
     unfold b1F
     have : ¬ t'.k = 3 := by rcases hq with h | h <;> omega
     rw [if_neg this, if_neg this]
    rw [e]
    refine h t' E s ?_
    rcases hq with ⟨k, _, _, u⟩ | ⟨k, u⟩
    ·exact ⟨.inl k, u⟩
    ·exact ⟨.inr k, u⟩))
 refine RuC.of (cf := cf87) (by kernel_rfl) (by kernel_rfl) (hcl.mono fun N h E s => ⟨s, (s87_eq _ _ _ _).trans ?_⟩)
 have h' : cl (qaf CP N E) 148 [(vw x t).v, .p (.func 153 [] []), .p (.func 152 [] [])] s = some (qeY (qog x t), s) := h () E s trivial
 unfold s87
 simp only [h', qak, qaX, qaC, qay, qbP, Option.bind_some, qaa, qai, qar, qas, qav]
end Go.AI.Tryz
namespace Go.AI
def qbb {σ α : Type} (f : σ → α → σ × Bool) : σ → List α → σ × Bool
 | x, [] => (x, true)
 | x, a :: r => if (f x a).2 then qbb f (f x a).1 r else ((f x a).1, false)
theorem qdK {σ α : Type} (f : σ → α → σ × Bool) : ∀ (l m : List α) (x : σ), qbb f x (l ++ m) = if (qbb f x l).2 then qbb f (qbb f x l).1 m else ((qbb f x l).1, false)
 | [], m, x => by simp only [List.nil_append, qbb, if_true]
 | a :: l, m, x => by
  simp only [List.cons_append, qbb]
  split
  ·exact qdK f l m _
  ·simp only [Bool.false_eq_true, if_false]
end Go.AI
namespace Go.AI.Tryz
def ScOk (x : Sc) : Prop := ∀ e ∈ x.ids, 1 ≤ e.ty.res.n ∧ e.ty.res.n ≤ 64
theorem ScOk.get {x : Sc} (h : ScOk x) {i : Int} {e : Se} (he : x.get i = some e) : 1 ≤ e.ty.res.n ∧ e.ty.res.n ≤ 64 := by
 obtain ⟨j, _, hj⟩ := Sc.get_inv he
 exact h e (List.mem_of_getElem? hj)
theorem ScOk.with {x : Sc} (h : ScOk x) {y : Se} (hy : 1 ≤ y.ty.res.n ∧ y.ty.res.n ≤ 64) : ScOk (x.with y) := by
 intro e he
 simp only [Sc.with, List.mem_append, List.mem_singleton] at he
 rcases he with he | rfl
 ·exact h e he
 ·exact hy
theorem qfL : ∀ (d : Nat) (t : Tm) (x : Sc), t.size ≤ d → ScOk x → (szF x t).2 = true → 1 ≤ (szF x t).1 ∧ (szF x t).1 ≤ 64
 | 0, t, _, h, _, _ => by have := Tm.size_pos t; omega
 | d + 1, t, x, hd, hx, h => by
  have IH : ∀ u ∈ t.ks, ∀ y, ScOk y → (szF y u).2 = true → 1 ≤ (szF y u).1 ∧ (szF y u).1 ≤ 64 := fun u hu y hy hs => qfL d u y (by have := qa1 hu; omega) hy hs
  cases qdk h with
  | num n m => rw [qdq] at h ⊢; simp only [Bool.and_eq_true, isSize_iff] at h; exact h.1
  | use i ks =>
   rw [qgs] at h ⊢
   cases he : x.get i with
   | none => rw [he] at h; cases h
   | some e => exact hx.get he
  | get i =>
   rw [qhs] at h ⊢
   cases he : x.get i with
   | none => rw [he] at h; cases h
   | some e => exact hx.get he
  | val i =>
   rw [qht] at h ⊢
   cases he : x.get i with
   | none => rw [he] at h; cases h
   | some e => exact hx.get he
  | put i u => rw [qeD]; exact ⟨Int.le_refl _, by show (1 : Int) ≤ 64; omega⟩
  | whl u w => rw [qfi]; exact ⟨Int.le_refl _, by show (1 : Int) ≤ 64; omega⟩
  | jmp n => rw [qlH]; exact ⟨Int.le_refl _, by show (1 : Int) ≤ 64; omega⟩
  | hang => rw [qij]; exact ⟨Int.le_refl _, by show (1 : Int) ≤ 64; omega⟩
  | op n m u w =>
   rw [qeE] at h ⊢
   split at h
   ·simp only [Bool.and_eq_true, isSize_iff] at h; rename_i h1; simp only [h1, if_true]; exact h.1
   ·split at h
    ·rename_i h1 h2; simp only [h1, h2, if_false, if_true]; exact ⟨by omega, by omega⟩
    ·cases h
  | az n u => rw [qeF] at h ⊢; simp only [Bool.and_eq_true, isSize_iff] at h; exact h.2
  | seq u w => rw [qbO] at h ⊢; simp only [Bool.and_eq_true] at h; exact IH w (by simp [Tm.ks]) x hx h.1
  | ite c u w => rw [qch] at h ⊢; simp only [Bool.and_eq_true] at h; exact IH u (by simp [Tm.ks]) x hx h.1.1
  | new n m u =>
   rw [qeG] at h ⊢
   simp only [Bool.and_eq_true, isSize_iff] at h
   exact IH u (by simp [Tm.ks]) _ (hx.with h.2.1) h.1
  | lbl u w => rw [qdZ] at h ⊢; simp only [Bool.and_eq_true] at h; exact IH u (by simp [Tm.ks]) { x with size := x.size + 1 } hx h.1
  | cho u w => rw [qd0] at h ⊢; simp only [Bool.and_eq_true] at h; exact IH u (by simp [Tm.ks]) x hx h.1
  | ntc n i u => rw [qd2] at h ⊢; simp only [Bool.and_eq_true] at h; exact IH u (by simp [Tm.ks]) x hx h.1
  | cel i => rw [qfj] at h; cases h
  | obj u w => rw [qd1] at h; cases h
structure Nd (x : Sc) (t : Tm) : Prop where
 w : (szF x t).2 = true ∨ ∃ b, qdt szF x t b = true
 b : x.B t.size
 ok : t.Ok
 sc : ScOk x
theorem Nd.sh {x : Sc} {t : Tm} (h : Nd x t) : Sh t := by
 rcases h.w with h | ⟨b, h⟩
 ·exact qdk h
 ·rcases qeI h with h | ⟨i, e, rfl, _⟩ | ⟨u, w, rfl, _⟩
  ·exact qdk (by rw [h])
  ·exact .cel i
  ·exact .obj u w
theorem Nd.gd {x : Sc} {t : Tm} (h : Nd x t) : Gd x t := by
 refine ⟨h.sh, h.b, fun h1 h2 => ?_, h.ok⟩
 rcases h.w with h | ⟨b, h⟩
 ·exact h
 ·rcases qeI h with h | ⟨i, e, rfl, _⟩ | ⟨u, w, rfl, _⟩
  ·rw [h]
  ·exact absurd rfl h1
  ·exact absurd rfl h2
theorem Nd.size {x : Sc} {t : Tm} (h : Nd x t) : t.size ≤ 1000000 := by have := h.b.1; omega
theorem quE {x : Sc} {t u : Tm} {j : Nat} (h : x.B t.size) (hu : t.ks[j]? = some u) : (x.kid t j).B u.size := by
 have hlt := qa1 (List.mem_of_getElem? hu)
 unfold Sc.kid
 split
 ·exact qhr h hlt
 ·split
  ·exact qhr h hlt
  ·split
   ·obtain ⟨h1, h2, h3⟩ := h
    exact ⟨by show x.ids.length + _ ≤ _; omega, by show 0 ≤ x.size + 1; omega, by show x.size + 1 + _ ≤ _; omega⟩
   ·exact qmK h hlt
theorem Nd.kid {x : Sc} {t u : Tm} {j : Nat} (h : Nd x t) (hu : t.ks[j]? = some u) : Nd (x.kid t j) u := by
 have hm := List.mem_of_getElem? hu
 have hb := quE h.b hu
 have hok := h.ok.kids u hm
 have hB := h.b
 have hOk := h.ok
 have fin : ∀ y, y = x.kid t j → ((szF y u).2 = true ∨ ∃ b, qdt szF y u b = true) → ScOk y → Nd (x.kid t j) u := by
  rintro y rfl h1 h2
  exact ⟨h1, hb, hok, h2⟩
 have sc := h.sc
 have hw : (szF x t).2 = true ∨ (∃ i, t = .cel i) ∨ (∃ v w, ∃ b : Bs, t = .obj v w ∧ szF x v = (b.n, true) ∧ szF (x.with ⟨⟨[], ⟨false, b.n⟩⟩, true⟩) w = (1, true)) := by
  rcases h.w with h | ⟨b, h⟩
  ·exact .inl h
  ·rcases qeI h with h1 | ⟨i, e, h1, _⟩ | ⟨v, w, h1, h2, h3, _⟩
   ·exact .inl (by rw [h1])
   ·exact .inr (.inl ⟨i, h1⟩)
   ·exact .inr (.inr ⟨v, w, b, h1, h2, h3⟩)
 clear h
 rcases hw with h | ⟨i, rfl⟩ | ⟨v, w, b, rfl, h1, h2⟩
 ·cases qdk h with
  | num n m => simp [Tm.ks] at hu
  | use i ks =>
   rw [qgs] at h
   simp only [Bool.and_eq_true] at h
   obtain ⟨b, _, hf⟩ := qe2 h.2.2.2 u hm
   exact fin x (by simp [Sc.kid, Tm.k]) (.inr ⟨b, hf⟩) sc
  | get i => simp [Tm.ks] at hu
  | put i v =>
   rw [qeD, Bool.and_eq_true, is2_iff] at h
   have : u = v := by simpa [Tm.ks] using hm
   subst this
   exact fin x (by simp [Sc.kid, Tm.k]) (.inl (by rw [h.2])) sc
  | op n m v w =>
   rw [qeE] at h
   have hin : is2 (szF x v) m = true ∧ is2 (szF x w) m = true := by
    split at h
    ·simp only [Bool.and_eq_true] at h ⊢; exact h.2
    ·split at h
     ·simp only [Bool.and_eq_true] at h ⊢; exact h.2
     ·cases h
   rw [is2_iff, is2_iff] at hin
   have hc : u = v ∨ u = w := by simpa [Tm.ks] using hm
   rcases hc with rfl | rfl
   ·exact fin x (by simp [Sc.kid, Tm.k]) (.inl (by rw [hin.1])) sc
   ·exact fin x (by simp [Sc.kid, Tm.k]) (.inl (by rw [hin.2])) sc
  | az n v =>
   rw [qeF, Bool.and_eq_true] at h
   have : u = v := by simpa [Tm.ks] using hm
   subst this
   exact fin x (by simp [Sc.kid, Tm.k]) (.inl h.1) sc
  | seq v w =>
   rw [qbO, Bool.and_eq_true, is2_iff] at h
   have hc : u = v ∨ u = w := by simpa [Tm.ks] using hm
   rcases hc with rfl | rfl
   ·exact fin x (by simp [Sc.kid, Tm.k]) (.inl (by rw [h.2])) sc
   ·exact fin x (by simp [Sc.kid, Tm.k]) (.inl h.1) sc
  | ite c v w =>
   rw [qch, Bool.and_eq_true, Bool.and_eq_true, is2_iff] at h
   have hc : u = c ∨ u = v ∨ u = w := by simpa [Tm.ks] using hm
   rcases hc with rfl | rfl | rfl
   ·exact fin x (by simp [Sc.kid, Tm.k]) (.inl h.2) sc
   ·exact fin x (by simp [Sc.kid, Tm.k]) (.inl h.1.1) sc
   ·exact fin x (by simp [Sc.kid, Tm.k]) (.inl (by rw [h.1.2])) sc
  | whl v w =>
   rw [qfi, Bool.and_eq_true, is2_iff] at h
   have hc : u = v ∨ u = w := by simpa [Tm.ks] using hm
   rcases hc with rfl | rfl
   ·exact fin x (by simp [Sc.kid, Tm.k]) (.inl h.1) sc
   ·exact fin x (by simp [Sc.kid, Tm.k]) (.inl (by rw [h.2])) sc
  | new n m v =>
   rw [qeG, Bool.and_eq_true, Bool.and_eq_true, isSize_iff] at h
   have : u = v := by simpa [Tm.ks] using hm
   subst this
   exact fin _ (by simp [Sc.kid, Tm.k, Tm.n]) (.inl h.1) (sc.with h.2.1)
  | lbl v w =>
   rw [qdZ, Bool.and_eq_true, is2_iff] at h
   match j, hu with
   | 0, hu =>
    have : u = v := by simpa [Tm.ks] using hu.symm
    subst this
    exact fin { x with size := x.size + 1 } (by simp [Sc.kid, Tm.k]) (.inl h.1) sc
   | 1, hu =>
    have : u = w := by simpa [Tm.ks] using hu.symm
    subst this
    exact fin x (by simp [Sc.kid, Tm.k]) (.inl (by rw [h.2])) sc
   | j + 2, hu => simp [Tm.ks] at hu
  | jmp n => simp [Tm.ks] at hu
  | cho v w =>
   rw [qd0, Bool.and_eq_true, is2_iff] at h
   have hc : u = v ∨ u = w := by simpa [Tm.ks] using hm
   rcases hc with rfl | rfl
   ·exact fin x (by simp [Sc.kid, Tm.k]) (.inl h.1) sc
   ·exact fin x (by simp [Sc.kid, Tm.k]) (.inl (by rw [h.2])) sc
  | hang => simp [Tm.ks] at hu
  | val i => simp [Tm.ks] at hu
  | cel i => simp [Tm.ks] at hu
  | obj v w => rw [qd1] at h; cases h
  | ntc n i v =>
   rw [qd2, Bool.and_eq_true] at h
   have : u = v := by simpa [Tm.ks] using hm
   subst this
   exact fin x (by simp [Sc.kid, Tm.k]) (.inl h.1) sc
 ·simp [Tm.ks] at hu
 ·match j, hu with
  | 0, hu =>
   have : u = v := by simpa [Tm.ks] using hu.symm
   subst this
   exact fin x (by simp [Sc.kid, Tm.k]) (.inl (by rw [h1])) sc
  | 1, hu =>
   have : u = w := by simpa [Tm.ks] using hu.symm
   subst this
   have hr := qfL _ v x (Nat.le_refl _) sc (by rw [h1])
   rw [h1] at hr
   exact fin (x.with ⟨⟨[], ⟨false, b.n⟩⟩, true⟩) (by simp [Sc.kid, Tm.k, Tm.ks, h1]) (.inl (by rw [h2])) (sc.with hr)
  | j + 2, hu => simp [Tm.ks] at hu
def qbC (i : Nat) (x : Sc) (t : Tm) : Option Tm :=
 match i with
 | 0 => opR x t | 1 => asR t | 2 => qkH x t | 3 => qdl t | 4 => qkJ t | 5 => ifR t | 6 => qkK t | 7 => qpE t | 8 => qkL x t | 9 => qkM t | 10 => qio t | 11 => qgX x t
 | 12 => qgt t | 13 => qkP x t | 14 => qrD x t | 15 => qog x t | 16 => qeH x t | 17 => qgx t | 18 => qkN t | 19 => qem x t | 20 => qel t | 21 => qfk t
 | _ => none
theorem qte {x : Sc} {t : Tm} (h : Nd x t) (hs : t.size ≤ 900000) : ∀ i, i < 22 → RuC (72 + i) x t (qbC i x t)
 | 0, _ => op_c x t h.gd
 | 1, _ => as_c x t h.sh fun hk => by
  have := h.gd.sz (by omega) (by omega)
  cases h.sh with
  | az n u => rw [qeF, Bool.and_eq_true, isSize_iff] at this; show n ≠ 0; omega
  | _ => simp only [Tm.k_mk] at hk; omega
 | 2, _ => qrm x t h.gd
 | 3, _ => qn5 x t h.gd
 | 4, _ => qsW x t h.gd
 | 5, _ => if_c x t h.gd
 | 6, _ => qrq x t h.gd
 | 7, _ => qux x t h.gd
 | 8, _ => qsY x t h.gd
 | 9, _ => qsZ x t h.gd
 | 10, _ => qs0 x t h.gd
 | 11, _ => by
  by_cases hk : t.k = 16 ∨ t.k = 17
  ·have hsh := h.sh
   refine qqk x t h.gd ?_
   rcases hk with hk | hk
   ·cases hsh with
    | cel i => rw [qfj]; exact .mk (by omega) (by omega) (by show _ ∧ (0 : Int) ≤ _; omega) (by omega) (by simp) (fun _ h => by cases h)
    | _ => simp only [Tm.k_mk] at hk; omega
   ·cases hsh with
    | obj u w => rw [qd1]; exact .mk (by omega) (by omega) (by show _ ∧ (0 : Int) ≤ _; omega) (by omega) (by simp) (fun _ h => by cases h)
    | _ => simp only [Tm.k_mk] at hk; omega
  ·have hsz := h.gd.sz (by omega) (by omega)
   have := qfL _ t x (Nat.le_refl _) h.sc hsz
   exact qqk x t h.gd (.mk (by omega) (by omega) (by omega) (by omega) (by simp) (fun _ h => by cases h))
 | 12, _ => qrs x t h.gd
 | 13, _ => qpK x t h.gd hs
 | 14, _ => qtd x t h.gd hs
 | 15, _ => qrE x t h.gd hs
 | 16, _ => qru x t h.gd
 | 17, _ => qrx x t h.gd hs
 | 18, _ => qs1 x t h.gd
 | 19, _ => qpI x t h.gd hs
 | 20, _ => qpF x t h.gd
 | 21, _ => qrt x t h.gd
 | _ + 22, h => absurd h (by omega)
mutual
def qbm : Tm → Sc → List (Sc × Tm)
 | .mk k n m i ks, x => (x, .mk k n m i ks) :: qby (fun j => x.kid (.mk k n m i ks) j) 0 ks
def qby (sc : Nat → Sc) : Nat → List Tm → List (Sc × Tm)
 | _, [] => []
 | j, u :: r => qbm u (sc j) ++ qby sc (j + 1) r
end
theorem qdV (t : Tm) (x : Sc) : qbm t x = (x, t) :: qby (fun j => x.kid t j) 0 t.ks := by cases t; rw [qbm]; rfl
theorem qeJ : ∀ (d : Nat) (t : Tm) (x : Sc), t.size ≤ d → Nd x t → ∀ p ∈ qbm t x, Nd p.1 p.2 ∧ p.2.size ≤ t.size
 | 0, t, _, h, _ => by have := Tm.size_pos t; omega
 | d + 1, t, x, hd, h => by
  have hk : ∀ (r done : List Tm) (j : Nat), t.ks = done ++ r → done.length = j → ∀ p ∈ qby (fun j => x.kid t j) j r, Nd p.1 p.2 ∧ p.2.size ≤ t.size := by
   intro r
   induction r with
   | nil => intro done j _ _ p hp; simp only [qby] at hp; cases hp
   | cons u r ih =>
    intro done j he hl p hp
    simp only [qby, List.mem_append] at hp
    have hu : t.ks[j]? = some u := by rw [he, List.getElem?_append_right (by omega), hl]; simp
    have hlt := qa1 (List.mem_of_getElem? hu)
    rcases hp with hp | hp
    ·obtain ⟨h1, h2⟩ := qeJ d u _ (by omega) (h.kid hu) p hp
     exact ⟨h1, by omega⟩
    ·exact ih (done ++ [u]) (j + 1) (by rw [he]; simp) (by simp [hl]) p hp
  intro p hp
  rw [qdV, List.mem_cons] at hp
  rcases hp with rfl | hp
  ·exact ⟨h, Nat.le_refl _⟩
  ·exact hk t.ks [] 0 rfl rfl p hp
end Go.AI.Tryz
namespace Go.AI
theorem qc9 {α : Type} {l : Nat} : ∀ {pre H : List (Nat × α)}, (∀ x ∈ pre, x.1 ≠ l) → qal (pre ++ H) l = qal H l
 | [], _, _ => rfl
 | (k, v) :: pre, H, h => by
  simp only [List.cons_append, qal]
  rw [show Nat.beq k l = false from Tryz.beq_false (h _ (List.mem_cons_self ..)), cond_false]
  exact qc9 fun x hx => h x (List.mem_cons_of_mem _ hx)
theorem qcV {α : Type} {l : Nat} {v : α} : ∀ {pre H : List (Nat × α)}, (∀ x ∈ pre, x.1 ≠ l) → qaD (pre ++ H) l v = (qaD H l v).map (pre ++ ·)
 | [], H, _ => by cases h : qaD H l v <;> simp [h]
 | (k, w) :: pre, H, h => by
  simp only [List.cons_append, qaD]
  rw [show Nat.beq k l = false from Tryz.beq_false (h _ (List.mem_cons_self ..)), cond_false, qcV fun x hx => h x (List.mem_cons_of_mem _ hx)]
  cases qaD H l v <;> rfl
theorem qen {E : qaM} {s : ASt} {l : Nat} {pre H : qaM} (h : s.heap = pre ++ H) (hp : ∀ x ∈ pre, x.1 ≠ l) : qap E s l = qcu E H l := by
 unfold qcu qap
 rw [h, qc9 hp]
end Go.AI
namespace Go.AI.Tryz
section
variable {κ σ : Type} {R : κ → σ → qaM → ASt → Prop} {fv : κ → AVal} {f : σ → Sc × Tm → σ × Bool} {NS : List (Sc × Tm)} {live : Nat → σ → Prop}
def qtf (live : Nat → σ → Prop) (R : κ → σ → qaM → ASt → Prop) (fv : κ → AVal) (f : σ → Sc × Tm → σ × Bool) (NS : List (Sc × Tm)) (n : Nat) : Prop := ∀ q y E s m, ∀ p ∈ NS, R q y E s → live (m + 22) y → ∃ s', clv (qaf CP n E) (fv q) [(vw p.1 p.2).v] s = some (bl (f y p).2, s') ∧ R q (f y p).1 E s' ∧ ((f y p).2 = true → live m (f y p).1)
def quZ (NS : List (Sc × Tm)) (n : Nat) : Prop := ∀ p ∈ NS, ∀ (j : Nat) u, p.2.ks[j]? = some u → ∀ E s, cl (qaf CP n E) 132 [(vw p.1 p.2).v, i64 (.ofNat j)] s = some ((vw (p.1.kid p.2 j) u).v, s)
theorem qqp (ha : ∀ q, qbl (fv q) = true) (he : ∀ q, qaB (fv q) = fv q) (hf : Ev fun n => qtf live R fv f NS n) (hk : Ev fun n => quZ NS n) :
  ∀ d, d ≤ 1000000 → Ev fun n => ∀ q (t : Tm) x, t.size ≤ d → (∀ p ∈ qbm t x, p ∈ NS) → ∀ y E s m, R q y E s → live (m + 22 * t.size) y → ∃ s', cl (qaf CP n E) 95 [(vw x t).v, fv q] s = some (bl (qbb f y (qbm t x)).2, s') ∧ R q (qbb f y (qbm t x)).1 E s' ∧ ((qbb f y (qbm t x)).2 = true → live m (qbb f y (qbm t x)).1)
 | 0, _ => Ev.of fun n q t x h => by have := Tm.size_pos t; omega
 | d + 1, hd => by
  refine Ev.succ (((hf.and hk).and ((qqp ha he hf hk d (by omega)).and (Ev.ge (d + 3)))).mono fun n ⟨⟨hf, hk⟩, ih, hn⟩ q t x hsz hmem y E s m hr hlv => ?_)
  suffices ∃ s', s95 (qaf CP n E) n (vw x t).v (fv q) s = some (bl (qbb f y (qbm t x)).2, s') ∧ R q (qbb f y (qbm t x)).1 E s' ∧ ((qbb f y (qbm t x)).2 = true → live m (qbb f y (qbm t x)).1) by
   obtain ⟨s', e1, e2, e3⟩ := this
   refine ⟨s', ?_, e2, e3⟩
   rw [qbG]
   exact qeV (cf := cf95) (np := 2) (args' := [(vw x t).v, fv q]) (v := bl (qbb f y (qbm t x)).2) (by kernel_rfl) (by kernel_rfl) rfl (by simp only [List.all_cons, qcs, ha]; rfl) (by simp only [List.map_cons, qct, he]; rfl) ((s95_eq _ _ _ _ _).trans e1) rfl rfl
  have hself : (x, t) ∈ NS := hmem _ (by rw [qdV]; exact List.mem_cons_self ..)
  have hts := Tm.size_ks t
  rw [hts] at hlv
  obtain ⟨s1, a1, a2, a3⟩ := hf q y E s (m + 22 * Tm.sizeL t.ks) (x, t) hself hr (by rw [show m + 22 * Tm.sizeL t.ks + 22 = m + 22 * (1 + Tm.sizeL t.ks) by omega]; exact hlv)
  rw [qdV, qbb]
  rw [qdV] at hmem
  unfold s95
  cases hgo : (f y (x, t)).2 with
  | false =>
   rw [hgo] at a1
   simp only [a1, Bool.false_eq_true, if_false, qay, qbP, qbS, vwt, Bool.not_false, qab, cond_true, Option.bind_some, qaa, qat, qei]
   exact ⟨s1, rfl, a2, fun h => by cases h⟩
  | true =>
   rw [hgo] at a1
   simp only [a1, if_true, qay, qbP, qbS, vwt, Bool.not_true, qab, cond_false, Option.bind_some, qaa, qat, qei]
   unfold s95_0
   generalize hF : (fun (h12 : AVal → ASt → Res) (x10 : AVal) (s11 : ASt) => _) = F
   have hlen := Tm.len_le_size t.ks
   have key : ∀ (r done : List Tm) (j k : Nat) (y : σ) (s : ASt), t.ks = done ++ r → done.length = j → r.length < k → R q y E s → live (m + 22 * Tm.sizeL r) y → ∃ s', lp (fun _ _ => none) F k (i64 (.ofNat j)) s = some (bl (qbb f y (qby (fun j => x.kid t j) j r)).2, s') ∧ R q (qbb f y (qby (fun j => x.kid t j) j r)).1 E s' ∧ ((qbb f y (qby (fun j => x.kid t j) j r)).2 = true → live m (qbb f y (qby (fun j => x.kid t j) j r)).1) := by
    intro r
    induction r with
    | nil =>
     intro done j k y s h1 h2 hk hr hlv
     obtain ⟨k, rfl⟩ : ∃ m, k = m + 1 := ⟨k - 1, by simp only [List.length_nil] at hk; omega⟩
     rw [qbA]
     generalize lp _ F k = L
     subst hF
     have hj : j = t.ks.length := by rw [h1]; simp [h2]
     have hnl : ¬ (Int.ofNat j < Int.ofNat t.ks.length) := fun h => by have := of_lt.1 h; omega
     simp only [hnl, qby, qbb, qbP, qag, qaG, qaK, decide_false, qab, cond_false, Option.map_some, Option.bind_some]
     exact ⟨s, rfl, hr, fun _ => by simpa only [Tm.sizeL, Nat.mul_zero, Nat.add_zero] using hlv⟩
    | cons u r ih2 =>
     intro done j k y s h1 h2 hk2 hr hlv
     obtain ⟨k, rfl⟩ : ∃ m, k = m + 1 := ⟨k - 1, by simp only [List.length_cons] at hk2; omega⟩
     have hu : t.ks[j]? = some u := by rw [h1, List.getElem?_append_right (by omega), h2]; simp
     have hjl : j < t.ks.length := (List.getElem?_eq_some_iff.1 hu).1
     have hus : u.size < t.size := qa1 (List.mem_of_getElem? hu)
     have hkid := hk (x, t) hself j u hu E
     have hsub : ∀ p ∈ qby (fun j => x.kid t j) j (u :: r), p ∈ qby (fun j => x.kid t j) 0 t.ks := by
      have : ∀ (dn : List Tm) (i : Nat) (rest : List Tm) p, p ∈ qby (fun j => x.kid t j) (i + dn.length) rest → p ∈ qby (fun j => x.kid t j) i (dn ++ rest) := by
       intro dn
       induction dn with
       | nil => intro i rest p hp; exact hp
       | cons v dn ih3 =>
        intro i rest p hp
        simp only [List.cons_append, qby, List.mem_append]
        right
        refine ih3 (i + 1) rest p ?_
        rw [List.length_cons] at hp
        rw [show i + 1 + dn.length = i + (dn.length + 1) by omega]
        exact hp
      intro p hp
      rw [h1]
      exact this done 0 _ p (by rw [Nat.zero_add, h2]; exact hp)
     have hmu : ∀ p ∈ qbm u (x.kid t j), p ∈ NS := fun p hp => hmem p (List.mem_cons_of_mem _ (hsub p (by simp only [qby, List.mem_append]; exact .inl hp)))
     obtain ⟨s2, b1, b2, b3⟩ := ih q u (x.kid t j) (by omega) hmu y E s (m + 22 * Tm.sizeL r) hr (by rw [show m + 22 * Tm.sizeL r + 22 * u.size = m + 22 * (u.size + Tm.sizeL r) by omega]; exact hlv)
     simp only [qby, qdK]
     have hw := qbh (show j < 9223372036854775807 by omega)
     cases hg2 : (qbb f y (qbm u (x.kid t j))).2 with
     | false =>
      rw [hg2] at b1
      rw [qbA]
      generalize lp _ F k = L
      subst hF
      simp only [of_lt.2 hjl, hkid, b1, Bool.false_eq_true, if_false, qbP, qag, qaG, qaK, decide_true, Bool.not_false, qab, cond_true, Option.map_some, Option.bind_some, qaa, qat]
      exact ⟨s2, rfl, b2, fun h => by cases h⟩
     | true =>
      rw [hg2] at b1
      obtain ⟨s3, c1, c2, c3⟩ := ih2 (done ++ [u]) (j + 1) k _ s2 (by rw [h1]; simp) (by simp [h2]) (by simp only [List.length_cons] at hk2; omega) b2 (b3 hg2)
      rw [qbA]
      generalize lp _ F k = L at c1 ⊢
      subst hF
      simp only [of_lt.2 hjl, hkid, b1, hw, if_true, qbP, qag, qaG, qaK, decide_true, Bool.not_true, qab, cond_true, cond_false, Option.map_some, Option.bind_some, qaa, qat]
      exact ⟨s3, c1, c2, c3⟩
   exact key t.ks [] 0 n _ s1 rfl rfl (by omega) a2 (a3 hgo)
end
def nm : Nat → ByteArray
 | 0 => ⟨#[111, 112]⟩ | 1 => ⟨#[97, 115]⟩ | 2 => ⟨#[115, 105, 122, 101]⟩ | 3 => ⟨#[110, 101, 117, 116, 114, 97, 108]⟩ | 4 => ⟨#[115, 119, 97, 112]⟩ | 5 => ⟨#[105, 102]⟩ | 6 => ⟨#[115, 97, 109, 101]⟩ | 7 => ⟨#[110, 111, 116]⟩ | 8 => ⟨#[98, 111, 111, 108]⟩ | 9 => ⟨#[115, 107, 105, 112]⟩ | 10 => ⟨#[110, 101, 115, 116]⟩
 | 11 => ⟨#[100, 101, 97, 100]⟩ | 12 => ⟨#[119, 104, 105, 108, 101]⟩ | 13 => ⟨#[117, 110, 117, 115, 101, 100]⟩ | 14 => ⟨#[114, 101, 97, 100]⟩ | 15 => ⟨#[119, 114, 105, 116, 101]⟩ | 16 => ⟨#[107, 110, 111, 119, 110]⟩ | 17 => ⟨#[108, 97, 98, 101, 108]⟩ | 18 => ⟨#[106, 117, 109, 112]⟩ | 19 => ⟨#[110, 111, 116, 105, 99, 101]⟩ | 20 => ⟨#[99, 104, 111, 111, 115, 101]⟩ | _ => ⟨#[110, 101, 118, 101, 114]⟩
def ruC (i : Nat) : List PVal := [.str (nm i), .func (72 + i) [] []]
def ruL : List Nat := [0, 1, 2, 3, 4, 5, 6, 7, 8, 9, 10, 11, 12, 13, 14, 15, 16, 17, 18, 19, 20, 21]
abbrev ruV : AVal := .p (.sl 22 (qaY ruC ruL))
theorem qoh : PC CP 50 [] ruV := by
 refine PC.of2 (cf := cf50) (np := 0) (args' := []) (by kernel_rfl) (by kernel_rfl) rfl rfl rfl (fun _ => rfl) (Ev.of fun n E s => ⟨.sl 22 (qaY ruC ruL) .full, s, (s50_eq _ _ _).trans ?_, rfl⟩)
 rfl
theorem qoi {i : Nat} (h : i < 22) : ruL[i]? = some i := by
 match i, h with
 | 0, _ => rfl | 1, _ => rfl | 2, _ => rfl | 3, _ => rfl | 4, _ => rfl | 5, _ => rfl | 6, _ => rfl | 7, _ => rfl | 8, _ => rfl | 9, _ => rfl | 10, _ => rfl
 | 11, _ => rfl | 12, _ => rfl | 13, _ => rfl | 14, _ => rfl | 15, _ => rfl | 16, _ => rfl | 17, _ => rfl | 18, _ => rfl | 19, _ => rfl | 20, _ => rfl | 21, _ => rfl
 | _ + 22, h => exact absurd h (by omega)
end Go.AI.Tryz
namespace Go.AI.Tryz
abbrev Of := Int × Int × Tm
def rwV (o : Of) : AVal := .agg [u8 o.1, i64 o.2.1]
def qdr (sm : Int → Bool) (x : Sc) (t : Tm) (at_ : Int) : List Of := ruL.filterMap fun i => if sm (.ofNat (i + 1)) then (qbC i x t).map fun u => (.ofNat (i + 1), at_, u) else none
def qgA (sm : Int → Bool) : Int → List (Sc × Tm) → List Of
 | _, [] => []
 | at_, p :: r => qdr sm p.1 p.2 at_ ++ qgA sm (at_ + 1) r
def qmw (sm : Int → Bool) : Int → List (Sc × Tm) → List Of
 | _, [] => []
 | at_, p :: r => qdr sm p.1 p.2 at_ ++ qmw sm (qa5 .i64 (at_ + 1)) r
theorem qlO (sm : Int → Bool) : ∀ (r : List (Sc × Tm)) (at_ : Int), 0 ≤ at_ → at_ + r.length ≤ 1000000000 → qmw sm at_ r = qgA sm at_ r
 | [], _, _, _ => rfl
 | p :: r, a, h0, h1 => by
  simp only [List.length_cons] at h1
  simp only [qmw, qgA]
  rw [qbW (by omega) (by omega), qlO sm r (a + 1) (by omega) (by omega)]
def f96 {σ : Type} (st : σ → Of → σ × Bool) (sm : Int → Bool) : σ × Int → Sc × Tm → (σ × Int) × Bool := fun z p =>
 if (qbb st z.1 (qdr sm p.1 p.2 z.2)).2 then (((qbb st z.1 (qdr sm p.1 p.2 z.2)).1, qa5 .i64 (z.2 + 1)), true) else (((qbb st z.1 (qdr sm p.1 p.2 z.2)).1, z.2), false)
theorem qqq {σ : Type} (st : σ → Of → σ × Bool) (sm : Int → Bool) : ∀ (l : List (Sc × Tm)) (y : σ) (a : Int), (qbb (f96 st sm) (y, a) l).1.1 = (qbb st y (qmw sm a l)).1 ∧ (qbb (f96 st sm) (y, a) l).2 = (qbb st y (qmw sm a l)).2
 | [], y, a => ⟨rfl, rfl⟩
 | p :: l, y, a => by
  simp only [qbb, qmw, qdK, f96]
  cases h : (qbb st y (qdr sm p.1 p.2 a)).2 with
  | true =>
   simp only [if_true]
   exact qqq st sm l _ _
  | false => simp only [Bool.false_eq_true, if_false, and_self]
theorem qrF {m : Nat} (h : m < 256) : qa5 .u8 (.ofNat m) = .ofNat m := by
 show cond (Nat.blt m 256) _ _ = _
 rw [blt_iff.2 h, cond_true]
abbrev qoj (s : ASt) : Nat × List (Nat × Nat × Nat) := (s.ntok, s.toks)
section
variable {κ σ : Type} (N0 l7 : κ → Nat) (yv someV : κ → AVal) (U : κ → σ → qaM → qaM → Nat × List (Nat × Nat × Nat) → Prop) (st : σ → Of → σ × Bool) (sm : Int → Bool) (OS : Tm → Prop) (live : Nat → σ → Prop)
def YC (n : Nat) : Prop := ∀ q y E H pre s (o : Of) (m : Nat), OS o.2.2 → s.heap = pre ++ H → (∀ x ∈ pre, N0 q ≤ x.1) → N0 q ≤ s.next → U q y E H (qoj s) → live (m + 1) y →
 ∃ s' H', clv (qaf CP n E) (yv q) [rwV o, o.2.2.v] s = some (bl (st y o).2, s') ∧ s'.heap = pre ++ H' ∧ s'.next = s.next ∧ U q (st y o).1 E H' (qoj s') ∧ ((st y o).2 = true → live m (st y o).1)
def SmC (n : Nat) : Prop := ∀ q y E H pre s i, i < 22 → s.heap = pre ++ H → (∀ x ∈ pre, N0 q ≤ x.1) → U q y E H (qoj s) → clv (qaf CP n E) (someV q) [u8 (.ofNat (i + 1))] s = some (bl (sm (.ofNat (i + 1))), s)
def RuA (NS : List (Sc × Tm)) (n : Nat) : Prop := ∀ p ∈ NS, ∀ i, i < 22 → ∀ E s, cl (qaf CP n E) (72 + i) [(vw p.1 p.2).v] s = some (qeY (qbC i p.1 p.2), s)
def qjN (q : κ) (M : Nat) (a : Int) : qaM := [(M + 2, .cells [ruV]), (M + 1, .cells [i64 a]), (M, .cells [yv q])]
def R96 (q : κ × Nat) (z : σ × Int) (E : qaM) (s : ASt) : Prop := ∃ H, s.heap = qjN yv q.1 q.2 z.2 ++ H ∧ s.next = q.2 + 3 ∧ N0 q.1 ≤ q.2 ∧ U q.1 z.1 E H (qoj s)
variable {N0 l7 yv someV U st sm OS live}
theorem quF {NS : List (Sc × Tm)} (hmono : ∀ m y, live (m + 1) y → live m y) (hU : ∀ q y E H tk, U q y E H tk → qcu E H (l7 q) = some [someV q] ∧ l7 q < N0 q) (hOS : ∀ p ∈ NS, ∀ i, i < 22 → ∀ u, qbC i p.1 p.2 = some u → OS u)
  (hy : Ev fun n => YC N0 yv U st OS live n) (hs : Ev fun n => SmC N0 someV U sm n) (hr : Ev fun n => RuA NS n) :
  Ev fun n => qtf (fun m z => live m z.1) (R96 N0 yv U) (fun q => .func 96 [] [.ptr (q.2 + 2) 0, .ptr (l7 q.1) 0, .ptr q.2 0, .ptr (q.2 + 1) 0]) (f96 st sm) NS n := by
 refine Ev.succ ((((hy.and hs).and (hr.and (Ev.ge 30)))).mono fun n ⟨⟨hy, hs⟩, hr, hn⟩ q z E s m p hp ⟨H, r1, r2, r3, r4⟩ hlv => ?_)
 rw [qgW CP (by omega)]
 simp only [List.nil_append, List.cons_append]
 obtain ⟨q, M⟩ := q
 obtain ⟨y, a⟩ := z
 obtain ⟨x, t⟩ := p
 simp only at r1 r2 r3 r4 hlv
 suffices ∃ s', s96 (qaf CP n E) n (vw x t).v (.ptr (M + 2) 0) (.ptr (l7 q) 0) (.ptr M 0) (.ptr (M + 1) 0) s = some (bl (f96 st sm (y, a) (x, t)).2, s') ∧ R96 N0 yv U (q, M) (f96 st sm (y, a) (x, t)).1 E s' ∧ ((f96 st sm (y, a) (x, t)).2 = true → live m (f96 st sm (y, a) (x, t)).1.1) by
  obtain ⟨s', e1, e2, e3⟩ := this
  refine ⟨s', ?_, e2, e3⟩
  rw [qbG]
  exact qeV (cf := cf96) (np := 5) (args' := [(vw x t).v, .ptr (M + 2) 0, .ptr (l7 q) 0, .ptr M 0, .ptr (M + 1) 0]) (v := bl (f96 st sm (y, a) (x, t)).2) (by kernel_rfl) (by kernel_rfl) rfl rfl rfl ((s96_eq _ _ _ _ _ _ _ _).trans e1) rfl rfl
 have hpre : ∀ b : Int, ∀ v ∈ qjN yv q M b, N0 q ≤ v.1 := by
  intro b v hv
  simp only [qjN, List.mem_cons, List.not_mem_nil, or_false] at hv
  rcases hv with rfl | rfl | rfl <;> simp only <;> omega
 have c2 : ∀ (s : ASt) H, s.heap = qjN yv q M a ++ H → qap (qaf CP n E).E s (M + 2) = some [ruV] := fun s H h => by rw [qaQ]; exact qaZ h
 have c1 : ∀ (s : ASt) H, s.heap = qjN yv q M a ++ H → qap (qaf CP n E).E s (M + 1) = some [i64 a] := fun s H h => by
  rw [qaQ, qbf h (by omega)]
  exact qaZ (s := { s with heap := (M + 1, .cells [i64 a]) :: (M, .cells [yv q]) :: H }) rfl
 have c0 : ∀ (s : ASt) H, s.heap = qjN yv q M a ++ H → qap (qaf CP n E).E s M = some [yv q] := fun s H h => by
  have h' : s.heap = (M + 1 + 1, .cells [ruV]) :: (M + 1, .cells [i64 a]) :: (M, .cells [yv q]) :: H := h
  rw [qaQ, qhu h' (by omega)]
  exact qaZ (s := ⟨0, (M, .cells [yv q]) :: H, 0, []⟩) rfl
 have c7 : ∀ (s : ASt) H y, s.heap = qjN yv q M a ++ H → U q y E H (qoj s) → qap (qaf CP n E).E s (l7 q) = some [someV q] := fun s H y h hu => by
  obtain ⟨h1, h2⟩ := hU q y E H _ hu
  rw [qaQ, qen h fun v hv => by have := hpre a v hv; omega]
  exact h1
 have one : ∀ v : AVal, ldL [v] 0 none = some v := fun _ => rfl
 unfold s96
 simp only [ldP (c2 s H r1), one, qay, Option.bind_some, qei]
 unfold s96_2
 generalize hF : (fun (h16 : AVal → Nat → Nat → List AVal → List AVal → List AVal → ASt → Res) (x9 : AVal) (g10 g11 : Nat) (c12 c13 c14 : List AVal) (s15 : ASt) => _) = F
 have key : ∀ (r : List Nat) (j k g g' : Nat) (c c' : List AVal) (y : σ) (s : ASt) (H : qaM), ruL.drop j = r → j + r.length = 22 → r.length < k → s.heap = qjN yv q M a ++ H → s.next = M + 3 → U q y E H (qoj s) → live (m + r.length) y →
   ∃ s', lp (fun _ _ _ _ _ _ _ => none) F k (i64 (.ofNat j)) g g' (vw x t).c c c' s = some (bl (qbb st y (r.filterMap fun i => if sm (.ofNat (i + 1)) then (qbC i x t).map fun u => ((.ofNat (i + 1) : Int), a, u) else none)).2, s') ∧
    ((qbb st y (r.filterMap fun i => if sm (.ofNat (i + 1)) then (qbC i x t).map fun u => ((.ofNat (i + 1) : Int), a, u) else none)).2 = true → R96 N0 yv U (q, M) ((qbb st y (r.filterMap fun i => if sm (.ofNat (i + 1)) then (qbC i x t).map fun u => ((.ofNat (i + 1) : Int), a, u) else none)).1, qa5 .i64 (a + 1)) E s' ∧ live m (qbb st y (r.filterMap fun i => if sm (.ofNat (i + 1)) then (qbC i x t).map fun u => ((.ofNat (i + 1) : Int), a, u) else none)).1) ∧
    ((qbb st y (r.filterMap fun i => if sm (.ofNat (i + 1)) then (qbC i x t).map fun u => ((.ofNat (i + 1) : Int), a, u) else none)).2 = false → R96 N0 yv U (q, M) ((qbb st y (r.filterMap fun i => if sm (.ofNat (i + 1)) then (qbC i x t).map fun u => ((.ofNat (i + 1) : Int), a, u) else none)).1, a) E s') := by
  intro r
  induction r with
  | nil =>
   intro j k g g' c c' y s H h1 h2 hk r1 r2 r4 hlv
   obtain ⟨k, rfl⟩ : ∃ m, k = m + 1 := ⟨k - 1, by simp only [List.length_nil] at hk; omega⟩
   rw [qbA]
   generalize lp _ F k = L
   subst hF
   have hj : j = 22 := by simpa using h2
   subst hj
   have hnl : ¬ (Int.ofNat 22 < Int.ofNat 22) := by omega
   have b2 : Nat.beq (M + 2) (M + 1) = false := beq_false (by omega)
   have hst : stH s (.ptr (M + 1) 0) [i64 (qa5 .i64 (a + 1))] = some { s with heap := qjN yv q M (qa5 .i64 (a + 1)) ++ H } := by
    have ho : over [i64 a] 0 [i64 (qa5 .i64 (a + 1))] = some [i64 (qa5 .i64 (a + 1))] := rfl
    have haw : [i64 (qa5 .i64 (a + 1))].all qaJ = true := rfl
    simp only [stH, qbn, r1, qjN, List.cons_append, List.nil_append, qal, qaD, b2, qaz rfl, cond_true, cond_false, haw, ho, Option.bind_some, Option.map_some]
   refine ⟨{ s with heap := qjN yv q M (qa5 .i64 (a + 1)) ++ H }, ?_, fun _ => ⟨⟨H, rfl, r2, r3, r4⟩, hlv⟩, fun h => by cases h⟩
   simp only [hnl, ldP (c1 s H r1), one, qbp, hst, List.filterMap_nil, qbb, qbP, qag, qaG, qaK, decide_false, qab, cond_false, qaw, Option.map_some, Option.bind_some, cnd]
  | cons i r ih =>
   intro j k g g' c c' y s H h1 h2 hk r1 r2 r4 hlv
   obtain ⟨k, rfl⟩ : ∃ m, k = m + 1 := ⟨k - 1, by simp only [List.length_cons] at hk; omega⟩
   simp only [List.length_cons] at h2 hk
   have hj22 : j < 22 := by omega
   have hij : i = j ∧ ruL.drop (j + 1) = r := by
    have hg := qoi hj22
    have hjl : j < ruL.length := hj22
    rw [List.drop_eq_getElem_cons hjl] at h1
    injection h1 with e1 e2
    rw [List.getElem?_eq_getElem hjl, Option.some.injEq] at hg
    exact ⟨e1.symm.trans hg, e2⟩
   obtain ⟨rfl, hrd⟩ := hij
   have hlt : Int.ofNat i < Int.ofNat 22 := of_lt.2 hj22
   have hia : iaV 2 ruV (i64 (.ofNat i)) = some (qaY ruC ruL, i * 2) := qdG (c := ruC) (sz := 2) (l := ruL) hj22
   have hld : ∀ s, ldH (qaf CP n E) s (.elem (qaY ruC ruL) (i * 2)) (some 2) = some (.agg [.p (.str (nm i)), .p (.func (72 + i) [] [])]) := fun s => qff (c := ruC) (sz := 2) (fun _ => rfl) _ s (qoi hj22)
   have hw := qbh (show i < 9223372036854775807 by omega)
   have hw8 := qrF (show i + 1 < 256 by omega)
   have hsm := hs q y E H (qjN yv q M a) s i hj22 r1 (hpre a) r4
   have hru := hr (x, t) hp i hj22 E s
   have ho2 : ∀ a b c d : AVal, over [a, b] 0 [c, d] = some [c, d] := fun _ _ _ _ => rfl
   have hl1 : ∀ a b : AVal, ldL [a, b] 1 none = some b := fun _ _ => rfl
   have hclf : ∀ args s, clv (qaf CP n E) (.p (.func (72 + i) [] [])) args s = cl (qaf CP n E) (72 + i) args s := fun args s => qfh CP (by omega) E _ args s
   have cl2 : ∀ a b : AVal, AVal.cells (some 2) (.agg [a, b]) = some [a, b] := fun _ _ => rfl
   cases hsmi : sm (.ofNat (i + 1)) with
   | false =>
    rw [hsmi] at hsm
    have hnext := ih (i + 1) k (g + 1) g' [.p (.str (nm i)), .p (.func (72 + i) [] [])] c' y s H hrd (by omega) (by omega) r1 r2 r4 (hmono _ _ hlv)
    have hfm : (List.filterMap (fun i => if sm (.ofNat (i + 1)) then (qbC i x t).map fun u => ((.ofNat (i + 1) : Int), a, u) else none) (i :: r)) = r.filterMap fun i => if sm (.ofNat (i + 1)) then (qbC i x t).map fun u => ((.ofNat (i + 1) : Int), a, u) else none := by
     rw [List.filterMap_cons_none]; simp only [hsmi, Bool.false_eq_true, if_false]
    rw [hfm]
    obtain ⟨s', e1, e2, e3⟩ := hnext
    refine ⟨s', ?_, e2, e3⟩
    rw [qbA]
    generalize lp _ F k = L at e1 ⊢
    subst hF
    unfold s96_0
    simp only [hlt, hia, hld, cl2, ho2, Nat.beq_refl, hw, qjw, hw8, ldP (c7 s H y r1 r4), one, hsm, qbP, qag, qaG, qaK, decide_true, Bool.not_false, qab, cond_true, qaw, Option.map_some, Option.bind_some, qaa, qat, cnd]
    exact e1
   | true =>
    rw [hsmi] at hsm
    cases hrl : qbC i x t with
    | none =>
     rw [hrl] at hru
     have hnext := ih (i + 1) k (g + 1) (g' + 1) [.p (.str (nm i)), .p (.func (72 + i) [] [])] Tm.z.c y s H hrd (by omega) (by omega) r1 r2 r4 (hmono _ _ hlv)
     have hfm : (List.filterMap (fun i => if sm (.ofNat (i + 1)) then (qbC i x t).map fun u => ((.ofNat (i + 1) : Int), a, u) else none) (i :: r)) = r.filterMap fun i => if sm (.ofNat (i + 1)) then (qbC i x t).map fun u => ((.ofNat (i + 1) : Int), a, u) else none := by
      rw [List.filterMap_cons_none]; simp only [hsmi, hrl, if_true, Option.map_none]
     rw [hfm]
     obtain ⟨s', e1, e2, e3⟩ := hnext
     refine ⟨s', ?_, e2, e3⟩
     rw [qbA]
     generalize lp _ F k = L at e1 ⊢
     subst hF
     unfold s96_1 s96_0
     simp only [hlt, hia, hld, cl2, ho2, hl1, Nat.beq_refl, hw, qjw, hw8, ldP (c7 s H y r1 r4), one, hsm, hclf, hru, qak, qaC, qbP, qag, qaG, qaK, decide_true, Bool.not_true, qab, cond_true, cond_false, qaw, Option.map_some, Option.bind_some, qaa, qai, qar, qas, qat, cnd, qav, Option.getD_none, Option.isSome_none]
     exact e1
    | some u =>
     rw [hrl] at hru
     have hyc := hy q y E H (qjN yv q M a) s (.ofNat (i + 1), a, u) (m + r.length) (hOS (x, t) hp i hj22 u hrl) r1 (hpre a) (by omega) r4 hlv
     obtain ⟨s1, H1, y1, y2, y3, y4, y5⟩ := hyc
     have y1' : clv (qaf CP n E) (yv q) [.agg [u8 (.ofNat (i + 1)), i64 a], u.v] s = some (bl (st y (.ofNat (i + 1), a, u)).2, s1) := y1
     have hbd : bd [u8 0, i64 0] [(0, none, .c (u8 (.ofNat (i + 1)))), (1, none, .c (i64 a))] = some (.agg [u8 (.ofNat (i + 1)), i64 a]) := rfl
     have hfm : (List.filterMap (fun i => if sm (.ofNat (i + 1)) then (qbC i x t).map fun u => ((.ofNat (i + 1) : Int), a, u) else none) (i :: r)) = (.ofNat (i + 1), a, u) :: r.filterMap fun i => if sm (.ofNat (i + 1)) then (qbC i x t).map fun u => ((.ofNat (i + 1) : Int), a, u) else none := by
      rw [List.filterMap_cons_some]; simp only [hsmi, hrl, if_true, Option.map_some]
     rw [hfm]
     simp only [qbb]
     cases hb : (st y (.ofNat (i + 1), a, u)).2 with
     | false =>
      rw [hb] at y1'
      refine ⟨s1, ?_, fun h => by simp at h, fun _ => ?_⟩
      ·rw [qbA]
       generalize lp _ F k = L
       subst hF
       unfold s96_1
       simp only [hlt, hia, hld, cl2, ho2, hl1, Nat.beq_refl, hw, qjw, hw8, ldP (c7 s H y r1 r4), ldP (c0 s H r1), ldP (c1 s H r1), one, hsm, hclf, hru, hbd, y1', Bool.false_eq_true, if_false, qak, qaX, qaC, qbP, qag, qaG, qaK, decide_true, Bool.not_true, Bool.not_false, qab, cond_true, cond_false, qaw, Option.map_some, Option.bind_some, qaa, qai, qar, qas, qat, cnd, qav, Option.getD_some, Option.isSome_some]
      ·simp only [Bool.false_eq_true, if_false]
       exact ⟨H1, y2, y3.trans r2, r3, y4⟩
     | true =>
      rw [hb] at y1'
      simp only [if_true]
      have hnext := ih (i + 1) k (g + 1) (g' + 1) [.p (.str (nm i)), .p (.func (72 + i) [] [])] u.c (st y (.ofNat (i + 1), a, u)).1 s1 H1 hrd (by omega) (by omega) y2 (y3.trans r2) y4 (y5 hb)
      obtain ⟨s', e1, e2, e3⟩ := hnext
      refine ⟨s', ?_, e2, e3⟩
      rw [qbA]
      generalize lp _ F k = L at e1 ⊢
      subst hF
      unfold s96_1 s96_0
      simp only [hlt, hia, hld, cl2, ho2, hl1, Nat.beq_refl, hw, qjw, hw8, ldP (c7 s H y r1 r4), ldP (c0 s H r1), ldP (c1 s H r1), one, hsm, hclf, hru, hbd, y1', qak, qaX, qaC, qbP, qag, qaG, qaK, decide_true, Bool.not_true, qab, cond_true, cond_false, qaw, Option.map_some, Option.bind_some, qaa, qai, qar, qas, qat, cnd, qav, Option.getD_some, Option.isSome_some]
      exact e1
 obtain ⟨s', e1, e2, e3⟩ := key ruL 0 n 0 0 [] [] y s H rfl rfl (by show 22 < n; omega) r1 r2 r4 hlv
 have hoff : (ruL.filterMap fun i => if sm (.ofNat (i + 1)) then (qbC i x t).map fun u => ((.ofNat (i + 1) : Int), a, u) else none) = qdr sm x t a := rfl
 rw [hoff] at e1 e2 e3
 unfold f96
 simp only
 cases hb : (qbb st y (qdr sm x t a)).2 with
 | true =>
  rw [hb] at e1
  simp only [if_true]
  exact ⟨s', e1, (e2 hb).1, fun _ => (e2 hb).2⟩
 | false =>
  rw [hb] at e1
  simp only [Bool.false_eq_true, if_false]
  exact ⟨s', e1, e3 hb, fun h => by cases h⟩
end
end Go.AI.Tryz
namespace Go.AI
theorem qtg (s : ASt) (zs cs new : List AVal) (o : Nat) (p : HObj) (ha : cs.all qaJ = true) (h : over zs o cs = some new) : stH (qae (qae s (.cells zs)) p) (.ptr s.next o) cs = some (qae (qae s (.cells new)) p) := by
 have b : Nat.beq (s.next + 1) s.next = false := Tryz.beq_false (by omega)
 unfold stH qbn qae
 simp only [qal, qaD, b, qaz rfl, cond_true, cond_false, ha, h, Option.bind_some, Option.map_some]
end Go.AI
namespace Go.AI.Tryz
mutual
theorem qda : ∀ (t : Tm) (x : Sc), (qbm t x).length = t.size
 | .mk k n m i ks, x => by
  simp only [qbm, List.length_cons, qhw ks, Tm.size]; omega
theorem qhw : ∀ (ks : List Tm) (sc : Nat → Sc) (j : Nat), (qby sc j ks).length = Tm.sizeL ks
 | [], _, _ => rfl
 | u :: r, sc, j => by simp only [qby, List.length_append, qda u, qhw r, Tm.sizeL]
end
theorem qok {x : Sc} {t : Tm} (h : (szF x t).2 = true) : ¬ t.k = 17 := by
 have hs := qdk h
 intro hk
 cases hs <;> first
  | (simp only [Tm.k_mk] at hk; omega)
  | (rw [qd1] at h; cases h)
theorem qrG {x : Sc} {t : Tm} (h : Nd x t) : Ev fun n => quZ (qbm t x) n := by
 refine Ev.mono (Ev.all (P := fun (p : Sc × Tm) n => ∀ (j : Nat) u, p.2.ks[j]? = some u → ∀ E s, cl (qaf CP n E) 132 [(vw p.1 p.2).v, i64 (.ofNat j)] s = some ((vw (p.1.kid p.2 j) u).v, s)) (qbm t x) fun p hp => ?_) fun n h p hp => h p hp
 obtain ⟨hn, _⟩ := qeJ _ t x (Nat.le_refl _) h p hp
 have hall := Ev.all (P := fun (j : Nat) n => ∀ u, p.2.ks[j]? = some u → ∀ E s, cl (qaf CP n E) 132 [(vw p.1 p.2).v, i64 (.ofNat j)] s = some ((vw (p.1.kid p.2 j) u).v, s)) (List.range p.2.ks.length) fun j hj => by
  have hjl : j < p.2.ks.length := List.mem_range.1 hj
  have hu : p.2.ks[j]? = some p.2.ks[j] := List.getElem?_eq_getElem hjl
  have := qn2 p.1 p.2 p.2.ks[j] j hu hn.b (fun hk _ => by
   rcases hn.w with h | ⟨b, h⟩
   ·exact absurd hk (qok h)
   ·rcases qeI h with h | ⟨i, e, h, _⟩ | ⟨u, w, h, h1, _⟩
    ·exact absurd hk (qok (x := p.1) (by rw [h]))
    ·rw [h] at hk; simp only [Tm.k_mk] at hk; omega
    ·exact ⟨u, by rw [h]; rfl, by rw [h1]⟩)
  refine this.mono fun n h u hu' E s => ?_
  rw [hu, Option.some.injEq] at hu'
  subst hu'
  exact h E s
 refine hall.mono fun n h j u hu E s => h j (List.mem_range.2 (List.getElem?_eq_some_iff.1 hu).1) u hu E s
theorem qpL {x : Sc} {t : Tm} (h : Nd x t) (hs : t.size ≤ 900000) : Ev fun n => RuA (qbm t x) n := by
 refine Ev.mono (Ev.all (P := fun (p : Sc × Tm) n => ∀ i, i < 22 → ∀ E s, cl (qaf CP n E) (72 + i) [(vw p.1 p.2).v] s = some (qeY (qbC i p.1 p.2), s)) (qbm t x) fun p hp => ?_) fun n h p hp => h p hp
 obtain ⟨hn, hsz⟩ := qeJ _ t x (Nat.le_refl _) h p hp
 have hall := Ev.all (P := fun (i : Nat) n => ∀ E s, cl (qaf CP n E) (72 + i) [(vw p.1 p.2).v] s = some (qeY (qbC i p.1 p.2), s)) (List.range 22) fun i hi => qte hn (by omega) i (List.mem_range.1 hi)
 exact hall.mono fun n h i hi => h i (List.mem_range.2 hi)
section
variable {κ σ : Type} {N0 l4 l7 : κ → Nat} {yv someV : κ → AVal} {U : κ → σ → qaM → qaM → Nat × List (Nat × Nat × Nat) → Prop} {st : σ → Of → σ × Bool} {sm : Int → Bool} {OS : Tm → Prop} {live : Nat → σ → Prop}
theorem qjO {x : Sc} {t : Tm} (hnd : Nd x t) (hsz : t.size ≤ 900000) (hmono : ∀ m y, live (m + 1) y → live m y) (ha : ∀ q, qaJ (yv q) = true) (hw : ∀ q, qbl (yv q) = true) (he : ∀ q, qaB (yv q) = yv q) (hce : ∀ q, AVal.cells none (yv q) = some [yv q])
  (hU : ∀ q y E H tk, U q y E H tk → qcu E H (l7 q) = some [someV q] ∧ l7 q < N0 q) (hU4 : ∀ q y E H tk, U q y E H tk → qcu E H (l4 q) = some (vw x t).c ∧ l4 q < N0 q)
  (hOS : ∀ p ∈ qbm t x, ∀ i, i < 22 → ∀ u, qbC i p.1 p.2 = some u → OS u)
  (hy : Ev fun n => YC N0 yv U st OS live n) (hs : Ev fun n => SmC N0 someV U sm n) :
  Ev fun n => ∀ q y E s, N0 q ≤ s.next → U q y E s.heap (qoj s) → live (22 * t.size) y → ∃ s' pre' H', cl (qaf CP n E) 94 [yv q, .ptr (l4 q) 0, .ptr (l7 q) 0] s = some (.tuple [], s') ∧ s'.heap = pre' ++ H' ∧ (∀ v ∈ pre', N0 q ≤ v.1) ∧ s'.next = s.next + 3 ∧ U q (qbb st y (qgA sm 0 (qbm t x))).1 E H' (qoj s') := by
 have hwalk := qqp (κ := κ × Nat) (fun _ => rfl) (fun _ => rfl) (quF (NS := qbm t x) hmono hU hOS hy hs (qpL hnd hsz)) (qrG hnd) t.size (by omega)
 refine Ev.succ ((hwalk.and qoh).mono fun n ⟨h, h50⟩ q y E s hN hu hlv => ?_)
 let M := s.next
 let s16 := qae (qae (qae s (.cells [yv q])) (.cells [i64 0])) (.cells [ruV])
 have hR : R96 N0 yv U (q, M) (y, 0) E s16 := ⟨s.heap, rfl, rfl, hN, hu⟩
 obtain ⟨s', e1, ⟨H', r1, r2, r3, r4⟩, _⟩ := h (q, M) t x (Nat.le_refl _) (fun p hp => hp) (y, 0) E s16 0 hR (by rw [Nat.zero_add]; exact hlv)
 have hf := qqq st sm (qbm t x) y 0
 rw [qlO sm (qbm t x) 0 (by omega) (by rw [qda]; omega)] at hf
 rw [hf.1] at r4
 refine ⟨s', qjN yv q M (qbb (f96 st sm) (y, 0) (qbm t x)).1.2, H', ?_, r1, ?_, r2, r4⟩
 ·rw [qbG]
  refine qeV (cf := cf94) (np := 3) (args' := [yv q, .ptr (l4 q) 0, .ptr (l7 q) 0]) (v := .tuple []) (by kernel_rfl) (by kernel_rfl) rfl (by simp only [List.all_cons, hw]; rfl) (by simp only [List.map_cons, he]; rfl) ((s94_eq _ _ _ _ _ _).trans ?_) rfl rfl
  have haw : [yv q].all qaJ = true := by simp only [List.all_cons, ha, List.all_nil, Bool.and_self]
  have hst1 : stH (qae (qae (qae s (.cells [yv q])) (.cells [i64 0])) (.cells [.sl 0 [] .full])) (.ptr (qae s (.cells [yv q])).next 0) [i64 0] = some (qae (qae (qae s (.cells [yv q])) (.cells [i64 0])) (.cells [.sl 0 [] .full])) := qtg _ _ _ _ _ _ rfl rfl
  have hst2 : stH (qae (qae (qae s (.cells [yv q])) (.cells [i64 0])) (.cells [.sl 0 [] .full])) (.ptr (qae (qae s (.cells [yv q])) (.cells [i64 0])).next 0) [ruV] = some s16 := qjI _ _ _ _ _ rfl rfl
  have hcr : AVal.cells none ruV = some [ruV] := rfl
  obtain ⟨h4, h4l⟩ := hU4 q y E s.heap _ hu
  have hc4 : qap (qaf CP n E).E s16 (l4 q) = some (vw x t).c := by
   rw [qaQ, qen (s := s16) (pre := qjN yv q M 0) (H := s.heap) rfl]
   ·exact h4
   ·intro v hv
    simp only [qjN, List.mem_cons, List.not_mem_nil, or_false, M] at hv
    rcases hv with rfl | rfl | rfl <;> simp only <;> omega
  have e1' : cl (qaf CP n E) 95 [(vw x t).v, .func 96 [] [.ptr (qae (qae s (.cells [yv q])) (.cells [i64 0])).next 0, .ptr (l7 q) 0, .ptr s.next 0, .ptr (qae s (.cells [yv q])).next 0]] s16 = some (_, s') := e1
  unfold s94
  simp only [hce, haw, h50, qbp, hst1, hcr, hst2, ldP hc4, e1', qbP, Option.bind_some, qaa, qaU, qa8, cnd]
 ·intro v hv
  simp only [qjN, List.mem_cons, List.not_mem_nil, or_false, M] at hv
  rcases hv with rfl | rfl | rfl <;> simp only <;> omega
end
theorem qpM (y : Vw) (fv : AVal) (ha : qaJ fv = true) (hw : qbl fv = true) (he : qaB fv = fv) (hce : AVal.cells none fv = some [fv]) :
  Ev fun n => ∀ E s, cl (qaf CP n E) 54 [y.v, fv] s = some (.func 94 [] [.ptr s.next 0, .ptr (s.next + 1) 0], qae (qae s (.cells y.c)) (.cells [fv])) := by
 refine Ev.succ (Ev.of fun n E s => ?_)
 rw [qbG]
 refine qeV (cf := cf54) (np := 2) (args' := [y.v, fv]) (v := .func 94 [] [.ptr s.next 0, .ptr (s.next + 1) 0]) (by kernel_rfl) (by kernel_rfl) rfl (by simp only [List.all_cons, qcs, hw]; rfl) (by simp only [List.map_cons, qct, he]; rfl) ((s54_eq _ _ _ _ _).trans ?_) rfl rfl
 have haw : [fv].all qaJ = true := by simp only [List.all_cons, ha, List.all_nil, Bool.and_self]
 unfold s54
 simp only [hce, haw, qay, qcD, Option.bind_some, qaU, qa8, cnd]
 rfl
theorem qol {ι : Type} (y : Vw) (fv : ι → AVal) (ha : ∀ i, qaJ (fv i) = true) (hw : ∀ i, qbl (fv i) = true) (he : ∀ i, qaB (fv i) = fv i) (hce : ∀ i, AVal.cells none (fv i) = some [fv i]) :
  Ev fun n => ∀ i E s, cl (qaf CP n E) 54 [y.v, fv i] s = some (.func 94 [] [.ptr s.next 0, .ptr (s.next + 1) 0], qae (qae s (.cells y.c)) (.cells [fv i])) := by
 refine Ev.succ (Ev.of fun n i E s => ?_)
 rw [qbG]
 refine qeV (cf := cf54) (np := 2) (args' := [y.v, fv i]) (v := .func 94 [] [.ptr s.next 0, .ptr (s.next + 1) 0]) (by kernel_rfl) (by kernel_rfl) rfl (by simp only [List.all_cons, qcs, hw]; rfl) (by simp only [List.map_cons, qct, he]; rfl) ((s54_eq _ _ _ _ _).trans ?_) rfl rfl
 have haw : [fv i].all qaJ = true := by simp only [List.all_cons, ha, List.all_nil, Bool.and_self]
 unfold s54
 simp only [hce, haw, qay, qcD, Option.bind_some, qaU, qa8, cnd]
 rfl
end Go.AI.Tryz
namespace Go.AI.Tryz
theorem qkQ (n : Nat) (E : qaM) (l : Nat) (args : List AVal) (s : ASt) : (qaf CP (n + 1) E).callv (.yield l) args s = qdW (qbU CP (qaf CP n) n E) (qaf CP n) n E (.yield l) args s := rfl
theorem qom {n nt nl : Nat} {E : qaM} {ly p1 p2 : Nat} {fr : Tr AVal} {lo : Tr (Nat × List AVal)} {a b : CC} {pre HT HT2 : qaM} {s s2 : ASt} {F0 : FL} {L : LL} {v1 v2 : AVal} {x : EX}
  (hrf : (qb9 a && qb9 b) = true) (hcs : (qhk (qed b (qed a 0)) a).cs = false) (h12 : p1 ≠ p2) (hp1 : p1 < nt) (hp2 : p2 < nt)
  (h : s.heap = pre ++ (ly, .loop 0 none fr lo [p1, p2] a b) :: HT) (hp : ∀ v ∈ pre, v.1 ≠ ly) (hF : ∀ t u, qal F0 t = some u → fr.get qah t = u) (hh : ∀ t, t < nt → fr.has t = true) (hL : ∀ i p, qal L i = some p → lo.get (0, []) i = p ∧ lo.has i = true) (ha : [v1, v2].all qbl = true)
  (hrun : qq2 nt nl (qaf CP n E) n a b (fun s => { s with heap := pre ++ (ly, .loop 1 none fr lo [p1, p2] a b) :: HT }) ((p1, v1) :: (p2, v2) :: F0) L s = some (qjz x, s2)) (h2 : s2.heap = pre ++ (ly, .loop 1 none fr lo [p1, p2] a b) :: HT2) :
  clv (qaf CP (n + 1) E) (.yield ly) [v1, v2] s = some (bl (qiC x), { s2 with heap := pre ++ (ly, .loop (qoL x) (qep x) fr lo [p1, p2] a b) :: HT2 }) := by
 rw [qgg, qkQ]
 have hbe : Nat.beq ly ly = true := qaz rfl
 have g1 : ∀ (o : HObj) (H : qaM), qal (pre ++ (ly, o) :: H) ly = some o := fun o H => by
  rw [qc9 hp]
  simp only [qal, hbe, cond_true]
 have g2 : ∀ (o o' : HObj) (H : qaM), qaD (pre ++ (ly, o) :: H) ly o' = some (pre ++ (ly, o') :: H) := fun o o' H => by
  rw [qcV hp]
  simp only [qaD, hbe, cond_true, Option.map_some]
 let f1 := (fr.set p1 v1).set p2 v2
 have hf1 : qc4 fr [p1, p2] [v1, v2] = some f1 := rfl
 have ag : AG nt ((p1, v1) :: (p2, v2) :: F0) L [] ⟨f1, lo, [], some ly, s⟩ := by
  refine ⟨fun t u hu => ?_, fun i p hi => hL i p hi, fun d l hd => (by cases hd), fun t ht => ?_⟩
  ·show ((fr.set p1 v1).set p2 v2).get qah t = u
   rw [Tr.get_set _ _ _ _ _ (by rw [Tr.has_set]; exact hh p2 hp2), Tr.get_set _ _ _ _ _ (hh p1 hp1)]
   rw [qaj] at hu
   split at hu
   ·rename_i e
    subst e
    rw [if_neg (fun e => h12 e.symm), if_pos rfl]
    simpa using hu
   ·rename_i e
    rw [qaj] at hu
    split at hu
    ·rename_i e2
     rw [if_pos e2]
     simpa using hu
    ·rename_i e2
     rw [if_neg e2, if_neg e]
     exact hF t u hu
  ·show ((fr.set p1 v1).set p2 v2).has t = true
   rw [Tr.has_set, Tr.has_set]
   exact hh t ht
 obtain ⟨ca, cb, k1, k2, k3, k4⟩ := qsE hrf hcs ag hrun
 have k2' : ca.s = s := k2
 simp only [qdW, h, g1, ha, cond_true, hf1, Option.bind_some, k1, k2', g2]
 have k3' : qa6 (qaf CP n E) n b { ca with s := { s with heap := pre ++ (ly, .loop 1 none fr lo [p1, p2] a b) :: HT } } = some (x, cb) := k3
 simp only [k3', Option.bind_some, endRound, k4, h2, g1, g2, Option.map_some]
theorem qpN (l : Tr (Nat × List AVal)) (i : Nat) : (l.map fun _ => ((0, []) : Nat × List AVal)).get (0, []) i = (0, []) := Tr.get_map (fun _ => ((0, []) : Nat × List AVal)) (0, []) l i
theorem qrH (f : Tr AVal) (i : Nat) : (f.map far).get qah i = far (f.get qah i) := Tr.get_map far qah f i
theorem qth {n n' nt : Nat} {E : qaM} {l4 l7 : Nat} {ps : List Nat} {a b : CC} {F : FL} {L : LL} {s : ASt} {kn kx kr : ASt → Res} {r : AVal} (hn : 1 ≤ n)
  (hrun : ∀ (fr : Tr AVal) (lo : Tr (Nat × List AVal)), (∀ t u, qal F t = some u → fr.get qah t = far u) → (∀ t, t < nt → fr.has t = true) → (∀ i, lo.get (0, []) i = (0, [])) → (∀ i p, qal L i = some p → lo.has i = true) →
   ∃ x s' pre' HT s2 r', cl (qaf CP n E) 94 [.yield s.next, .ptr l4 0, .ptr l7 0] (qae s (.loop 0 none fr lo ps a b)) = some (.tuple [], s') ∧ s'.heap = pre' ++ (s.next, .loop (qoL x) (qep x) fr lo ps a b) :: HT ∧ (∀ v ∈ pre', v.1 ≠ s.next) ∧ qaB r' = r ∧ (match x with
    | .normal => kn { s' with heap := pre' ++ (s.next, .gone) :: HT } = some (r', s2)
    | .exit i => i = exB b ∧ kx { s' with heap := pre' ++ (s.next, .gone) :: HT } = some (r', s2)
    | .ret => kr { s' with heap := pre' ++ (s.next, .gone) :: HT } = some (r', s2))) :
  qmi (qaf CP n E) n' nt (.func 94 [] [.ptr l4 0, .ptr l7 0]) ps a b F L s kn kx kr r := by
 intro c f hF hL hh hv hs hrd
 obtain ⟨x, s', pre', HT, s2, r', h1, h2, h3, her, h4⟩ := hrun (c.f.map far) (c.l.map fun _ => (0, [])) (fun t u hu => by rw [qrH, hF t u hu]) (fun t ht => by rw [Tr.has_map]; exact hh t ht) (qpN c.l) (fun i p hi => by rw [Tr.has_map]; exact hL i p hi)
 refine ⟨x, { s' with heap := pre' ++ (s.next, .gone) :: HT }, s2, r', ?_, her, h4⟩
 have hbe : Nat.beq s.next s.next = true := qaz rfl
 have g1 : qal (pre' ++ (s.next, HObj.loop (qoL x) (qep x) (c.f.map far) (c.l.map fun _ => (0, [])) ps a b) :: HT) s.next = some (.loop (qoL x) (qep x) (c.f.map far) (c.l.map fun _ => (0, [])) ps a b) := by
  rw [qc9 h3]
  simp only [qal, hbe, cond_true]
 have g2 : qaD (pre' ++ (s.next, HObj.loop (qoL x) (qep x) (c.f.map far) (c.l.map fun _ => (0, [])) ps a b) :: HT) s.next .gone = some (pre' ++ (s.next, .gone) :: HT) := by
  rw [qcV h3]
  simp only [qaD, hbe, cond_true, Option.map_some]
 have hil : qiD c = true := by unfold qiD; rw [hrd]
 have hcv : (qaf CP n E).callv (.func 94 [] [.ptr l4 0, .ptr l7 0]) [.yield s.next] (qae s (.loop 0 none (c.f.map far) (c.l.map fun _ => (0, [])) ps a b)) = some (.tuple [], s') := by
  have := qgW CP hn E 94 [] [.ptr l4 0, .ptr l7 0] [.yield s.next] (qae s (.loop 0 none (c.f.map far) (c.l.map fun _ => (0, [])) ps a b))
  rw [qgg] at this
  rw [this]
  exact h1
 have hst : Nat.beq (qoL x) 1 = false := by cases x <;> rfl
 unfold qa6
 rw [hil, hv, hs]
 simp only [qr8, Bool.and_self, cond_true, hcv, Option.bind_some, h2, g1, hst, cond_false, g2]
 cases x <;> rfl
theorem qlP (d : Nat) : ∀ (F : FL), (∀ p ∈ F, p.1 < 2 ^ d - 1) → ∃ fr : Tr AVal, (∀ t u, qal F t = some u → fr.get qah t = u) ∧ ∀ t, t < 2 ^ d - 1 → fr.has t = true
 | [], _ => ⟨Tr.mk qah d, fun t u h => (by cases h), fun t ht => Tr.has_mk _ _ _ (by omega)⟩
 | (k, v) :: F, h => by
  obtain ⟨fr, h1, h2⟩ := qlP d F fun p hp => h p (List.mem_cons_of_mem _ hp)
  refine ⟨fr.set k v, fun t u hu => ?_, fun t ht => by rw [Tr.has_set]; exact h2 t ht⟩
  rw [Tr.get_set _ _ _ _ _ (h2 k (h (k, v) (List.mem_cons_self ..)))]
  rw [qaj] at hu
  split at hu
  ·rename_i e
   rw [if_pos e]
   simpa using hu
  ·rename_i e
   rw [if_neg e]
   exact h1 t u hu
theorem qqr {e : Env} {n nt : Nat} {v : AVal} {ps : List Nat} {a b : CC} {F : FL} {L : LL} {s : ASt} {kn kx kr : ASt → Res} {r : AVal} (d dl : Nat) (hF : ∀ p ∈ F, p.1 < 2 ^ d - 1) (hn : nt ≤ 2 ^ d - 1) (hL : ∀ p ∈ L, p.1 < 2 ^ dl - 1) (h : qmi e n nt v ps a b F L s kn kx kr r) :
  rfK e n nt v ps a b F L s kn kx kr = some (r, s) := by
 have hex : ∃ r, qmi e n nt v ps a b F L s kn kx kr r := ⟨r, h⟩
 unfold rfK
 rw [dif_pos hex]
 have h2 := hex.choose_spec
 obtain ⟨fr, f1, f2⟩ := qlP d F hF
 have hlo : ∀ i p, qal L i = some p → (Tr.mk ((0, []) : Nat × List AVal) dl).has i = true := fun i p hi => Tr.has_mk _ _ _ (by
  have := hL (i, p) (by
   have : ∀ (L : LL), qal L i = some p → (i, p) ∈ L := by
    intro L
    induction L with
    | nil => intro h; cases h
    | cons q L ih =>
     intro h
     obtain ⟨k, w⟩ := q
     rw [qaj] at h
     split at h
     ·rename_i e
      subst e
      simp only [Option.some.injEq] at h
      subst h
      exact List.mem_cons_self ..
     ·exact List.mem_cons_of_mem _ (ih h)
   exact this L hi)
  simp only at this
  omega)
 obtain ⟨x, s', s2, r', k1, k2, k3⟩ := h ⟨fr, Tr.mk (0, []) dl, [], none, s⟩ (.c v) f1 hlo (fun t ht => f2 t (by omega)) rfl rfl rfl
 obtain ⟨y, t', t2, q', m1, m2, m3⟩ := h2 ⟨fr, Tr.mk (0, []) dl, [], none, s⟩ (.c v) f1 hlo (fun t ht => f2 t (by omega)) rfl rfl rfl
 rw [k1] at m1
 simp only [Option.some.injEq, Prod.mk.injEq] at m1
 obtain ⟨rfl, hs⟩ := m1
 injection hs with _ _ _ _ hs
 subst hs
 have hq : r' = q' := by
  cases x with
  | normal => simp only at k3 m3; rw [k3] at m3; simp only [Option.some.injEq, Prod.mk.injEq] at m3; exact m3.1
  | exit i => simp only at k3 m3; have := k3.2; rw [m3.2] at this; simp only [Option.some.injEq, Prod.mk.injEq] at this; exact this.1.symm
  | ret => simp only at k3 m3; rw [k3] at m3; simp only [Option.some.injEq, Prod.mk.injEq] at m3; exact m3.1
 rw [← k2, ← m2, hq]
end Go.AI.Tryz
namespace Go.AI
theorem qmx {s : ASt} {pre H : qaM} {l o : Nat} {zs cs new : List AVal} (h : s.heap = pre ++ (l, .cells zs) :: H) (hp : ∀ v ∈ pre, v.1 ≠ l) (ha : cs.all qaJ = true) (ho : over zs o cs = some new) : stH s (.ptr l o) cs = some { s with heap := pre ++ (l, .cells new) :: H } := by
 unfold stH qbn
 have hbe : Nat.beq l l = true := qaz rfl
 simp only [h, qc9 hp, qcV hp, qal, qaD, hbe, cond_true, ha, ho, Option.bind_some, Option.map_some]
theorem qdo {E : qaM} {s : ASt} {pre H : qaM} {l : Nat} {cs : List AVal} (h : s.heap = pre ++ (l, .cells cs) :: H) (hp : ∀ v ∈ pre, v.1 ≠ l) : qap E s l = some cs := by
 unfold qap
 have hbe : Nat.beq l l = true := qaz rfl
 simp only [h, qc9 hp, qal, hbe, cond_true]
end Go.AI
namespace Go.AI.Tryz
theorem qqs (a : Ar) (t : Tm) (h1 : a.ids.length ≤ 100000) : PC CP 65 [a.v, t.v] (vw (qaH a) t).v := by
 refine PC.of2 (cf := cf65) (np := 2) (args' := [a.v, t.v]) (by kernel_rfl) (by kernel_rfl) rfl (by simp only [List.all_cons, qam]; rfl) (by simp only [List.map_cons, qao]; rfl) (fun _ => rfl) ((Ev.ge (a.ids.length + 1)).mono fun n hn E s => ?_)
 let sz : List Int := a.ids.map fun t => t.res.n
 let f : Nat → List PVal := fun j => qaY qeK (sz.take j)
 have hszl : sz.length = a.ids.length := by simp only [sz, List.length_map]
 let fin : AVal := .agg [u8 t.k, i64 t.n, i64 t.m, i64 t.i, kv t.ks, qft f s.ntok a.ids.length, i64 (.ofNat a.ids.length)]
 suffices ∃ s', s65 (qaf CP n E) n a.v t.v s = some (fin, s') by
  obtain ⟨s', e⟩ := this
  refine ⟨fin, s', (s65_eq _ _ _ _ _).trans e, ?_⟩
  have he1 : qbT (qft f s.ntok a.ids.length) = .p (.sl a.ids.length (f a.ids.length)) := qdS f _ _ rfl
  have he2 : (vw (qaH a) t).sz = sz := by
   simp only [vw, qaH, sz, List.map_map]
   rfl
  have he3 : f a.ids.length = qaY qeK sz := by
   show qaY qeK (sz.take a.ids.length) = _
   rw [← hszl, List.take_length]
  show AVal.agg [_, _, _, _, _, qbT (qft f s.ntok a.ids.length), _] = AVal.agg [_, _, _, _, _, iv (vw (qaH a) t).sz, _]
  rw [he1, he2, he3, iv, hszl]
  rfl
 have hav : AVal.cells (some 4) a.v = some [.p (.sl a.ids.length (qaY Ty.cells a.ids)), bl a.root.cell, i64 a.root.n, bl a.jumps] := rfl
 have hbd : bd [u8 0, i64 0, i64 0, i64 0, .sl 0 [] .full, .sl 0 [] .full, i64 0] [(0, some 5, .c t.v), (6, none, .c (i64 (.ofNat a.ids.length)))] = some (.agg [u8 t.k, i64 t.n, i64 t.m, i64 t.i, kv t.ks, .sl 0 [] .full, i64 (.ofNat a.ids.length)]) := by rw [Tm.v_eq]; rfl
 unfold s65
 simp only [hav, hbd, qca, qnH, qnI, qak, qaX, Option.bind_some, qei]
 unfold s65_0
 generalize hF : (fun (h21 : AVal → Nat → List AVal → List AVal → List AVal → List AVal → List AVal → ASt → Res) (x13 : AVal) (g14 : Nat) (c15 c16 c17 c18 c19 : List AVal) (s20 : ASt) => _) = F
 have key : ∀ k (j g : Nat) (c : List AVal), j ≤ a.ids.length → a.ids.length - j < k → ∃ s', lp (fun _ _ _ _ _ _ _ _ => none) F k (i64 (.ofNat j)) g [.p (.sl a.ids.length (qaY Ty.cells a.ids)), bl a.root.cell, i64 a.root.n, bl a.jumps] t.c [u8 0, i64 0, i64 0, i64 0, .sl 0 [] .full, .sl 0 [] .full, i64 0]
   [u8 t.k, i64 t.n, i64 t.m, i64 t.i, kv t.ks, qft f s.ntok j, i64 (.ofNat a.ids.length)] c (qjY s 1 j) = some (fin, s') := by
  intro k
  induction k with
  | zero => intro j g c _ h; omega
  | succ k ih =>
   intro j g c hj hk
   rcases Nat.lt_or_ge j a.ids.length with h | h
   ·have hkj : a.ids[j]? = some a.ids[j] := List.getElem?_eq_getElem h
    have hld : ∀ s, ldH (qaf CP n E) s (.elem (qaY Ty.cells a.ids) (j * 3)) (some 3) = some a.ids[j].v := fun s => qff (c := Ty.cells) (sz := 3) (fun _ => rfl) _ s hkj
    have hsj : j < sz.length := by rw [hszl]; exact h
    have hszj : sz[j] = a.ids[j].res.n := by simp only [sz, List.getElem_map]
    have hap := qlB (qaf CP n E) (sz := 1) (b := 8) (f := f) (y := .sl 1 (qeK a.ids[j].res.n) .full) s j rfl rfl (by omega) (by
     have := qc1 (c := qeK) hsj
     rw [hszj] at this
     exact this)
    have hms : ms 1 [.int .i64 0] [(0, none, .c (i64 a.ids[j].res.n))] = some (.sl 1 (qeK a.ids[j].res.n) .full) := rfl
    have hcv : AVal.cells none (qft f s.ntok (j + 1)) = some [qft f s.ntok (j + 1)] := rfl
    have hl5 : ∀ a b c d e f g : AVal, ldL [a, b, c, d, e, f, g] 5 none = some f := fun _ _ _ _ _ _ _ => rfl
    have ho5 : ∀ a b c d e f g h : AVal, over [a, b, c, d, e, f, g] 5 [h] = some [a, b, c, d, e, h, g] := fun _ _ _ _ _ _ _ _ => rfl
    obtain ⟨s', e⟩ := ih (j + 1) (g + 1) [.p (.sl a.ids[j].ps.length (qaY Bs.cells a.ids[j].ps)), bl a.ids[j].res.cell, i64 a.ids[j].res.n] (by omega) (by omega)
    refine ⟨s', ?_⟩
    rw [qbA]
    generalize lp _ F k = L at e ⊢
    subst hF
    simp only [of_lt.2 h, qdG h, hld, Ty.v_cells3, qkr, Nat.beq_refl, hl5, qq5, hms, hap, hcv, ho5, qbh (show j < 9223372036854775807 by omega), qag, qaG, qaK, decide_true, qab, cond_true, Option.map_some, Option.bind_some, qaa, cnd]
    exact e
   ·have : j = a.ids.length := by omega
    subst this
    have h3 : ¬ (Int.ofNat a.ids.length < Int.ofNat a.ids.length) := fun h => Nat.lt_irrefl _ (of_lt.1 h)
    refine ⟨qjY s 1 a.ids.length, ?_⟩
    rw [qbA]
    generalize lp _ F k = L
    subst hF
    simp only [h3, qsH, qnH, qnI, qag, qaG, qaK, decide_false, qab, cond_false, Option.map_some, Option.bind_some, cnd]
    rfl
 obtain ⟨s', e⟩ := key n 0 0 [] (Nat.zero_le _) (by omega)
 exact ⟨s', e⟩
theorem qjP (a : Ar) (t : Tm) (oa : a.Ok) (ok : t.Ok) (h1 : a.ids.length ≤ 100000) (hs : t.size ≤ 100000) : PC CP 40 [a.v, t.v] (.tuple [(vw (qaH a) t).v, i64 (qbQ a t)]) := by
 refine PC.of2 (cf := cf40) (np := 2) (args' := [a.v, t.v]) (by kernel_rfl) (by kernel_rfl) rfl (by simp only [List.all_cons, qam]; rfl) (by simp only [List.map_cons, qao]; rfl) (fun _ => rfl) (((qqs a t h1).and (qkC a t oa ok h1 hs)).mono fun n ⟨h, h'⟩ E s => ⟨.tuple [(vw (qaH a) t).v, i64 (qbQ a t)], s, (s40_eq _ _ _ _ _).trans ?_, rfl⟩)
 have hav : AVal.cells (some 4) a.v = some [.p (.sl a.ids.length (qaY Ty.cells a.ids)), bl a.root.cell, i64 a.root.n, bl a.jumps] := rfl
 have hal : ldL [.p (.sl a.ids.length (qaY Ty.cells a.ids)), bl a.root.cell, i64 a.root.n, bl a.jumps] 0 (some 4) = some a.v := rfl
 unfold s40
 simp only [hav, hal, h, h', qak, qaX, qay, qbP, qgV, Option.bind_some, qaa]
theorem every_u : UC 42 (fun k : Int => [u8 k]) (fun _ _ _ => True) (fun _ => bl true) :=
 UC.of (cf := cf42) (np := 1) (by kernel_rfl) (by kernel_rfl) (fun _ => rfl) (fun _ => rfl) (fun _ => rfl) (fun _ => Stab.pure _) (fun _ _ => rfl) (Ev.of fun n p E s _ => ⟨bl true, s, (s42_eq _ _ _ _).trans rfl, rfl⟩)
theorem qis {a : Ar} {t : Tm} (h : qbQ a t = 0) (ok : t.Ok) (h1 : a.ids.length ≤ 100000) (hs : t.size ≤ 100000) : Nd (qaH a) t := by
 unfold qbQ at h
 split at h
 ·rename_i h0; exact absurd h h0
 ·rename_i h0
  have h0 : qcS a = 0 := by simpa using h0
  split at h
  ·omega
  ·split at h
   ·rename_i hA
    refine ⟨.inr ⟨a.root, hA⟩, ⟨by simp only [qaH, List.length_map]; omega, by simp only [qaH]; omega, by simp only [qaH]; omega⟩, ok, fun e he => ?_⟩
    simp only [qaH, List.mem_map] at he
    obtain ⟨ty, hty, rfl⟩ := he
    have : qdY ty = true := by
     unfold qcS at h0
     split at h0
     ·omega
     ·split at h0
      ·omega
      ·rename_i h2
       simp only [Bool.not_eq_true, Bool.or_eq_false_iff] at h2
       have := List.any_eq_false.1 h2.2 ty hty
       simpa using this
    simp only [qdY, Bool.and_eq_true, qb3, decide_eq_true_eq] at this
    exact this.1
   ·omega
end Go.AI.Tryz
namespace Go.AI.Tryz
abbrev Rw := Int × Int
def rwC (p : Rw) : List PVal := [.int .u8 p.1, .int .i64 p.2]
def qfv (tok : Nat) : List Rw → AVal
 | [] => .sl 0 [] .full
 | a :: r => .sl (r.length + 1) (qaY rwC (a :: r)) (.own tok)
abbrev qr7 (l : List Rw) : AVal := .p (.sl l.length (qaY rwC l))
def qrI (tk : Nat × List (Nat × Nat × Nat)) (tok : Nat) (y : List Rw) : Prop := y ≠ [] → qal tk.2 tok = some (y.length, 2)
theorem qrJ (e : Env) {y : List Rw} {tok : Nat} {s : ASt} (h : qrI (qoj s) tok y) (p : Rw) (hb : y.length ≤ 100000000) :
  ∃ tok' ts nt', ap e 2 16 (qfv tok y) (.sl 1 (rwC p) .full) s = some (qfv tok' (y ++ [p]), { s with ntok := nt', toks := ts }) ∧ qrI (nt', ts) tok' (y ++ [p]) := by
 cases y with
 | nil =>
  refine ⟨s.ntok, _, _, qie e (sz := 2) (b := 16) (new := rwC p) s rfl rfl (by omega), fun _ => ?_⟩
  show qal ((s.ntok, 1, 2) :: s.toks) s.ntok = _
  rw [qaj, if_pos rfl]
  rfl
 | cons a r =>
  have ht := h (by simp)
  obtain ⟨ts, e1, e2⟩ := qql e (sz := 2) (b := 16) (n := r.length + 1) (t := tok) (cs := qaY rwC (a :: r)) (new := rwC p) (y := .sl 1 (rwC p) .full) ht rfl rfl (by simp only [List.length_cons] at hb; omega)
  refine ⟨tok, ts, s.ntok, ?_, fun _ => ?_⟩
  ·have hl : qfv tok (a :: r ++ [p]) = .sl (r.length + 1 + 1) (qaY rwC (a :: r) ++ rwC p) (.own tok) := by
    show AVal.sl ((r ++ [p]).length + 1) (qaY rwC (a :: (r ++ [p]))) (.own tok) = _
    have := qgn rwC (a :: r) p
    rw [List.cons_append] at this
    rw [this, List.length_append]
    rfl
   rw [hl]
   exact e1
  ·show qal ts tok = _
   rw [e2, if_pos rfl]
   simp only [List.length_append, List.length_cons, List.length_nil]
theorem qti (tok : Nat) (y : List Rw) : qbT (qfv tok y) = qr7 y := by cases y <;> rfl
theorem qjQ (tok : Nat) (y : List Rw) : AVal.cells none (qfv tok y) = some [qfv tok y] := by cases y <;> rfl
theorem qlQ (tok : Nat) (y : List Rw) : [qfv tok y].all qaJ = true := by cases y <;> rfl
theorem qon (l : List Of) : ∀ (y : List Rw), qbb (fun (y : List Rw) (o : Of) => (y ++ [(o.1, o.2.1)], true)) y l = (y ++ l.map fun o => (o.1, o.2.1), true) := by
 induction l with
 | nil => intro y; simp only [qbb, List.map_nil, List.append_nil]
 | cons o r ih => intro y; simp only [qbb, if_true, ih, List.map_cons, List.append_assoc, List.cons_append, List.nil_append]
def qe3 : Int → Bool := fun _ => true
def qbs (a : Ar) (t : Tm) : List Of := qgA qe3 0 (qbm t (qaH a))
def qit (a : Ar) (t : Tm) : List Rw × Int := if qbQ a t = 0 then ((qbs a t).map fun o => (o.1, o.2.1), 0) else ([], qbQ a t)
abbrev K27 := Tr AVal × Tr (Nat × List AVal) × Nat × qaM
def U27 (x : Vw) (q : K27) (y : List Rw) (E H : qaM) (tk : Nat × List (Nat × Nat × Nat)) : Prop :=
 (q.1.get qah 4 = .ptr q.2.2.1 0 ∧ (∀ t, t < 31 → q.1.has t = true) ∧ q.2.1.get (0, []) 3 = (0, []) ∧ q.2.1.has 3 = true) ∧
 ∃ tok, H = (q.2.2.1 + 3, .loop 0 none q.1 q.2.1 [19, 20] ra27 rb27) :: (q.2.2.1 + 2, .cells [.p (.func 42 [] [])]) :: (q.2.2.1 + 1, .cells x.c) :: (q.2.2.1, .cells [qfv tok y]) :: q.2.2.2 ∧ qrI tk tok y
theorem qrK (x : Vw) : Ev fun n => YC (fun q : K27 => q.2.2.1 + 4) (fun q => .yield (q.2.2.1 + 3)) (U27 x) (fun y o => (y ++ [(o.1, o.2.1)], true)) (fun _ => True) (fun m y => y.length + m ≤ 100000000) n := by
 refine Ev.succ ((Ev.ge 1).mono fun n hn q y E H pre s o m _ hh hpre hN hU hlv => ?_)
 obtain ⟨fr, lo, N, H0⟩ := q
 obtain ⟨⟨f4, fh, l3, l3h⟩, tok, hH, hok⟩ := hU
 simp only at f4 fh l3 l3h hH hpre hN
 subst hH
 obtain ⟨k, at_, t⟩ := o
 have hpl : ∀ v ∈ pre, v.1 ≠ N + 3 := fun v hv => by have := hpre v hv; omega
 let LP : EX → HObj := fun _ => .loop 1 none fr lo [19, 20] ra27 rb27
 let u : ASt → ASt := fun s => { s with heap := pre ++ (N + 3, .loop 1 none fr lo [19, 20] ra27 rb27) :: (N + 2, .cells [.p (.func 42 [] [])]) :: (N + 1, .cells x.c) :: (N, .cells [qfv tok y]) :: H0 }
 let pre2 : qaM := pre ++ [(N + 3, .loop 1 none fr lo [19, 20] ra27 rb27), (N + 2, .cells [.p (.func 42 [] [])]), (N + 1, .cells x.c)]
 have hp2 : ∀ v ∈ pre2, v.1 ≠ N := by
  intro v hv
  simp only [pre2, List.mem_append, List.mem_cons, List.not_mem_nil, or_false] at hv
  rcases hv with hv | rfl | rfl | rfl
  ·have := hpre v hv; omega
  ·simp only; omega
  ·simp only; omega
  ·simp only; omega
 have hu : (u s).heap = pre2 ++ (N, .cells [qfv tok y]) :: H0 := by simp only [u, pre2, List.append_assoc, List.cons_append, List.nil_append]
 obtain ⟨tok', ts, nt', e1, e2⟩ := qrJ (qaf CP n E) (s := u s) (y := y) (tok := tok) hok (k, at_) (by omega)
 have hst := qmx (s := { u s with ntok := nt', toks := ts }) (l := N) (o := 0) hu hp2 (qlQ tok' (y ++ [(k, at_)])) (new := [qfv tok' (y ++ [(k, at_)])]) rfl
 have hld : qap (qaf CP n E).E (u s) N = some [qfv tok y] := qdo hu hp2
 have one : ∀ v : AVal, ldL [v] 0 none = some v := fun _ => rfl
 let s2 : ASt := { u s with ntok := nt', toks := ts, heap := pre2 ++ (N, .cells [qfv tok' (y ++ [(k, at_)])]) :: H0 }
 have hrun : qq2 31 7 (qaf CP n E) n ra27 rb27 u ((19, rwV (k, at_, t)) :: (20, t.v) :: [(4, .ptr N 0)]) [(3, (0, []))] s = some (qjz .normal, s2) := by
  refine (y27_eq (qaf CP n E) n u N (rwV (k, at_, t)) t.v s).trans ?_
  have hc2 : AVal.cells (some 2) (rwV (k, at_, t)) = some [u8 k, i64 at_] := rfl
  have hms : ms 1 [.int .u8 0, .int .i64 0] [(0, some 2, .c (.agg [u8 k, i64 at_]))] = some (.sl 1 (rwC (k, at_)) .full) := rfl
  unfold y27
  simp only [hc2, qia, ldP hld, one, qnF, hms, e1, qjQ, hst, Option.bind_some, qaa]
  rfl
 have hs2 : s2.heap = pre ++ (N + 3, .loop 1 none fr lo [19, 20] ra27 rb27) :: (N + 2, .cells [.p (.func 42 [] [])]) :: (N + 1, .cells x.c) :: (N, .cells [qfv tok' (y ++ [(k, at_)])]) :: H0 := by simp only [s2, pre2, List.append_assoc, List.cons_append, List.nil_append]
 have hy := qom (n := n) (nt := 31) (nl := 7) (E := E) (ly := N + 3) (fr := fr) (lo := lo) (pre := pre) (F0 := [(4, .ptr N 0)]) (L := [(3, (0, []))]) (v1 := rwV (k, at_, t)) (v2 := t.v) (x := .normal) (by kernel_rfl) (by kernel_rfl) (by omega) (by omega) (by omega) hh hpl
  (fun t u hu => by
   rw [qaj] at hu
   split at hu
   ·rename_i e; subst e; rw [f4]; simpa using hu
   ·cases hu) fh
  (fun i p hi => by
   rw [qaj] at hi
   split at hi
   ·rename_i e; subst e
    simp only [Option.some.injEq] at hi
    subst hi
    exact ⟨l3, l3h⟩
   ·cases hi) (by simp only [List.all_cons, qam]; rfl) hrun hs2
 refine ⟨_, _, hy, rfl, rfl, ⟨⟨f4, fh, l3, l3h⟩, tok', rfl, e2⟩, fun _ => ?_⟩
 simp only [List.length_append, List.length_cons, List.length_nil]
 omega
theorem qtj (x : Vw) : Ev fun n => SmC (fun q : K27 => q.2.2.1 + 4) (fun _ => .p (.func 42 [] [])) (U27 x) qe3 n :=
 (every_u.and (Ev.ge 1)).mono fun n ⟨h, hn⟩ q y E H pre s i _ _ _ _ => by
  rw [qfh CP hn]
  exact h (.ofNat (i + 1)) E s trivial
theorem qbk {E H : qaM} {l m : Nat} {o : HObj} (h : m ≠ l) : qcu E ((m, o) :: H) l = qcu E H l := by
 unfold qcu
 exact qbf rfl h
theorem qdL {E H : qaM} {l : Nat} {cs : List AVal} : qcu E ((l, .cells cs) :: H) l = some cs := qaZ (s := ⟨0, (l, .cells cs) :: H, 0, []⟩) rfl
theorem quG (x : Vw) (q : K27) (y : List Rw) (E H : qaM) (tk : Nat × List (Nat × Nat × Nat)) (h : U27 x q y E H tk) : qcu E H (q.2.2.1 + 2) = some [.p (.func 42 [] [])] ∧ q.2.2.1 + 2 < q.2.2.1 + 4 := by
 obtain ⟨_, tok, rfl, _⟩ := h
 exact ⟨by rw [qbk (by omega), qdL], by omega⟩
theorem quH (x : Vw) (q : K27) (y : List Rw) (E H : qaM) (tk : Nat × List (Nat × Nat × Nat)) (h : U27 x q y E H tk) : qcu E H (q.2.2.1 + 1) = some x.c ∧ q.2.2.1 + 1 < q.2.2.1 + 4 := by
 obtain ⟨_, tok, rfl, _⟩ := h
 exact ⟨by rw [qbk (by omega), qbk (by omega), qdL], by omega⟩
theorem qmy (a : Ar) (t : Tm) (oa : a.Ok) (ok : t.Ok) (h1 : a.ids.length ≤ 100000) (hs : t.size ≤ 100000) : PC CP 27 [a.v, t.v] (.tuple [qr7 (qit a t).1, i64 (qit a t).2]) := by
 have hav : AVal.cells (some 4) a.v = some [.p (.sl a.ids.length (qaY Ty.cells a.ids)), bl a.root.cell, i64 a.root.n, bl a.jumps] := rfl
 have hal : ldL [.p (.sl a.ids.length (qaY Ty.cells a.ids)), bl a.root.cell, i64 a.root.n, bl a.jumps] 0 (some 4) = some a.v := rfl
 have hf0 : AVal.cells none (.sl 0 [] .full) = some [.sl 0 [] .full] := rfl
 unfold qit
 by_cases hc : qbQ a t = 0
 ·have hnd := qis hc ok h1 hs
  let x := vw (qaH a) t
  have hoff := qjO (κ := K27) (N0 := fun q => q.2.2.1 + 4) (l4 := fun q => q.2.2.1 + 1) (l7 := fun q => q.2.2.1 + 2) (yv := fun q => .yield (q.2.2.1 + 3)) (someV := fun _ => .p (.func 42 [] [])) (U := U27 x) (sm := qe3) (OS := fun _ => True) (live := fun m y => y.length + m ≤ 100000000) hnd (by omega) (fun m y h => by omega) (fun _ => rfl) (fun _ => rfl) (fun _ => rfl) (fun _ => rfl) (quG x) (quH x) (fun _ _ _ _ _ _ => trivial) (qrK x) (qtj x)
  rw [if_pos hc]
  refine PC.of2 (cf := cf27) (np := 2) (args' := [a.v, t.v]) (by kernel_rfl) (by kernel_rfl) rfl (by simp only [List.all_cons, qam]; rfl) (by simp only [List.map_cons, qao]; rfl) (fun _ => rfl)
   (((qjP a t oa ok h1 hs).and ((qpM x (.p (.func 42 [] [])) rfl rfl rfl rfl).and (hoff.and (Ev.ge 1)))).mono fun n ⟨hl, ho, hoff, hn⟩ E s => ?_)
  let N := s.next
  let s21 := qae (qae (qae s (.cells [.sl 0 [] .full])) (.cells x.c)) (.cells [.p (.func 42 [] [])])
  let Y := (qbs a t).map fun o => ((o.1, o.2.1) : Rw)
  suffices s27 (qaf CP n E) n a.v t.v s = some (.tuple [qr7 Y, i64 0], s21) from ⟨_, s21, (s27_eq _ _ _ _ _).trans this, rfl⟩
  have hrf : ∀ (F : FL) (L : LL) (kn kx kr : ASt → Res), qal F 4 = some (.ptr N 0) → (∃ p, qal L 3 = some p) → (∀ s' : ASt, ∀ pre tok H, s'.heap = pre ++ (N, .cells [qfv tok Y]) :: H → (∀ v ∈ pre, v.1 ≠ N) → ∃ s2, kn s' = some (.tuple [qfv tok Y, i64 0], s2)) → qmi (qaf CP n E) n 31 (.func 94 [] [.ptr (N + 1) 0, .ptr (N + 2) 0]) [19, 20] ra27 rb27 F L s21 kn kx kr (.tuple [qr7 Y, i64 0]) := by
   intro F L kn kx kr hF4 ⟨pl3, hL3⟩ hkn
   refine qth hn fun fr lo hF hh hlo hL => ?_
   have hf4 := hF 4 _ hF4
   have hU : U27 x (fr, lo, N, s.heap) [] E (qae s21 (.loop 0 none fr lo [19, 20] ra27 rb27)).heap (qoj (qae s21 (.loop 0 none fr lo [19, 20] ra27 rb27))) := ⟨⟨hf4, hh, hlo 3, hL 3 _ hL3⟩, 0, rfl, fun h => absurd rfl h⟩
   obtain ⟨s', pre', H', e1, e2, e3, e4, ⟨_, tok, hH', _⟩⟩ := hoff (fr, lo, N, s.heap) [] E (qae s21 (.loop 0 none fr lo [19, 20] ra27 rb27)) (Nat.le_refl _) hU (by show 0 + 22 * t.size ≤ _; omega)
   rw [qon, List.nil_append] at hH'
   subst hH'
   have hk := hkn { s' with heap := pre' ++ (s21.next, .gone) :: (N + 2, .cells [.p (.func 42 [] [])]) :: (N + 1, .cells x.c) :: (N, .cells [qfv tok Y]) :: s.heap } (pre' ++ [(s21.next, .gone), (N + 2, .cells [.p (.func 42 [] [])]), (N + 1, .cells x.c)]) tok s.heap (by simp only [List.append_assoc, List.cons_append, List.nil_append]) (by
    intro v hv
    simp only [List.mem_append, List.mem_cons, List.not_mem_nil, or_false] at hv
    rcases hv with hv | rfl | rfl | rfl
    ·have := e3 v hv; simp only at this; omega
    ·show N + 1 + 1 + 1 ≠ N; omega
    ·show N + 2 ≠ N; omega
    ·show N + 1 ≠ N; omega)
   obtain ⟨s2, hk⟩ := hk
   refine ⟨.normal, s', pre', _, s2, _, e1, e2, fun v hv => by have := e3 v hv; simp only at this; show v.1 ≠ N + 1 + 1 + 1; omega, ?_, hk⟩
   show AVal.tuple [qcz (qfv tok Y), _] = _
   have : qcz (qfv tok Y) = qbT (qfv tok Y) := by cases Y <;> rfl
   rw [this, qti]
   rfl
  have one : ∀ v : AVal, ldL [v] 0 none = some v := fun _ => rfl
  have hlk : ∀ E s, cl (qaf CP n E) 40 [a.v, t.v] s = some (.tuple [x.v, i64 0], s) := by
   intro E s
   have := hl E s
   rw [hc] at this
   exact this
  unfold s27
  simp only [hav, hal, hlk, ho, qak, qaX, qay, qbP, qgV, qag, qbL, decide_true, Bool.not_true, qab, cond_false, Option.map_some, Option.bind_some, qaa, qai, qar, qas, qaU]
  refine qqr 5 3 ?_ (by omega) ?_ (hrf _ _ _ _ _ rfl ⟨_, rfl⟩ fun s' pre tok H hh hp => ?_)
  ·intro p hp
   simp only [List.mem_cons, List.not_mem_nil, or_false] at hp
   rcases hp with rfl | rfl | rfl | rfl | rfl | rfl | rfl | rfl | rfl | rfl | rfl | rfl | rfl | rfl | rfl | rfl | rfl | rfl <;> simp only <;> omega
  ·intro p hp
   simp only [List.mem_cons, List.not_mem_nil, or_false] at hp
   rcases hp with rfl | rfl | rfl | rfl | rfl | rfl | rfl | rfl <;> simp only <;> omega
  ·have hld : qap (qaf CP n E).E s' s.next = some [qfv tok Y] := qdo hh hp
   have hst := qmx (l := s.next) (o := 0) hh hp (qlQ tok Y) (new := [qfv tok Y]) rfl
   have hld2 : qap (qaf CP n E).E { s' with heap := pre ++ (s.next, .cells [qfv tok Y]) :: H } s.next = some [qfv tok Y] := qdo rfl hp
   refine ⟨{ s' with heap := pre ++ (s.next, .cells [qfv tok Y]) :: H }, ?_⟩
   simp only [ldP hld, ldP hld2, one, qjQ, hst, Option.bind_some]
 ·rw [if_neg hc]
  refine PC.of2 (cf := cf27) (np := 2) (args' := [a.v, t.v]) (by kernel_rfl) (by kernel_rfl) rfl (by simp only [List.all_cons, qam]; rfl) (by simp only [List.map_cons, qao]; rfl) (fun _ => rfl)
   ((qjP a t oa ok h1 hs).mono fun n hl E s => ⟨.tuple [.sl 0 [] .full, i64 (qbQ a t)], qae s (.cells [.sl 0 [] .full]), (s27_eq _ _ _ _ _).trans ?_, rfl⟩)
  have hst : stH (qae s (.cells [.sl 0 [] .full])) (.ptr s.next 0) [.sl 0 [] .full] = some (qae s (.cells [.sl 0 [] .full])) := qjI _ _ _ _ _ rfl rfl
  unfold s27
  simp only [hav, hal, hl, hc, hf0, hst, qb1, qak, qaX, qay, qgV, qag, qbL, decide_false, Bool.not_false, qab, cond_true, Option.map_some, Option.bind_some, qaa, qai, qar, qas, qaU, qce]
end Go.AI.Tryz
namespace Go.AI
mutual
def Tm.put1 (u : Tm) : Nat → Tm → Tm
 | 0, _ => u
 | j + 1, .mk k n m i ks => .mk k n m i (Tm.putL u j ks)
def Tm.putL (u : Tm) : Nat → List Tm → List Tm
 | _, [] => []
 | j, k :: r => if j < k.size then Tm.put1 u j k :: r else k :: Tm.putL u (j - k.size) r
end
theorem Tm.put1_succ (u t : Tm) (j : Nat) : Tm.put1 u (j + 1) t = t.with (Tm.putL u j t.ks) := by
 cases t; rw [Tm.put1]; rfl
def qdb (a : Int) (u : Tm) : Int → Tm → Int → Int × (Tm × Bool) := fun c t _ => (qa5 .i64 (c + 1), if qa5 .i64 (qa5 .i64 (c + 1) - 1) = a then (u, false) else (t, true))
theorem qlR {a : Int} {u : Tm} {c : Nat} (h : c ≤ 1000000000) (t : Tm) (l : Int) : qdb a u (.ofNat c) t l = (.ofNat (c + 1), if Int.ofNat c = a then (u, false) else (t, true)) := by
 have h1 : qa5 .i64 (Int.ofNat c + 1) = .ofNat (c + 1) := qbW (by simp only [Int.ofNat_eq_natCast]; omega) (by simp only [Int.ofNat_eq_natCast]; omega)
 have h2 : qa5 .i64 (Int.ofNat (c + 1) - 1) = .ofNat c := by
  have : Int.ofNat (c + 1) - 1 = Int.ofNat c := by simp only [Int.ofNat_eq_natCast]; omega
  rw [this]
  exact qbW (by simp only [Int.ofNat_eq_natCast]; omega) (by simp only [Int.ofNat_eq_natCast]; omega)
 unfold qdb
 rw [h1, h2]
def PutR (a c : Nat) (u : Tm) (sz : Nat) {α : Type} (t : α) (put : Nat → α) (r : Int × α) : Prop :=
 if c ≤ a ∧ a < c + sz then ∃ c' : Nat, r = (.ofNat c', put (a - c)) ∧ a < c' ∧ c' ≤ c + sz else r = (.ofNat (c + sz), t)
theorem PutR.inn {a c : Nat} {u : Tm} {sz : Nat} {α : Type} {t : α} {put : Nat → α} {r : Int × α} (h : c ≤ a ∧ a < c + sz) : PutR a c u sz t put r ↔ ∃ c' : Nat, r = (.ofNat c', put (a - c)) ∧ a < c' ∧ c' ≤ c + sz := by
 unfold PutR; rw [if_pos h]
theorem PutR.out {a c : Nat} {u : Tm} {sz : Nat} {α : Type} {t : α} {put : Nat → α} {r : Int × α} (h : ¬(c ≤ a ∧ a < c + sz)) : PutR a c u sz t put r ↔ r = (.ofNat (c + sz), t) := by
 unfold PutR; rw [if_neg h]
theorem Tm.with_ks (t : Tm) : t.with t.ks = t := by cases t; rfl
theorem qlS (a : Nat) (u : Tm) : ∀ (d c : Nat) (t : Tm) (l : Int), t.size ≤ d → c + t.size ≤ 1000000000 → PutR a c u t.size t (fun j => Tm.put1 u j t) (qcv (qdb (.ofNat a) u) d (.ofNat c) t l)
 | 0, c, t, l, h, _ => by have := Tm.size_pos t; omega
 | d + 1, c, t, l, h, hc => by
  have hk : ∀ (lab : Bool) (ks : List Tm) (j c : Nat), (∀ u ∈ ks, u.size ≤ d) → c + Tm.sizeL ks ≤ 1000000000 → PutR a c u (Tm.sizeL ks) ks (fun j => Tm.putL u j ks) (qeL (qcv (qdb (.ofNat a) u) d) lab l j (.ofNat c) ks) := by
   intro lab ks
   induction ks with
   | nil => intro j c _ _; rw [PutR.out (by simp only [Tm.sizeL]; omega)]; rfl
   | cons w r ih =>
    intro j c hu hc
    simp only [Tm.sizeL] at hc
    have h1 := qlS a u d c w (if lab && decide (j = 0) then l + 1 else l) (hu w (List.mem_cons_self ..)) (by omega)
    have ih := fun c' hc' => ih (j + 1) c' (fun v hv => hu v (List.mem_cons_of_mem _ hv)) hc'
    simp only [qeL, Tm.sizeL, Tm.putL]
    by_cases hin : c ≤ a ∧ a < c + w.size
    ·rw [PutR.inn hin] at h1
     obtain ⟨c', e, h3, h4⟩ := h1
     have ih := ih c' (by omega)
     rw [PutR.out (by omega)] at ih
     rw [e]
     simp only
     rw [ih, PutR.inn (by omega)]
     refine ⟨c' + Tm.sizeL r, ?_, by omega, by omega⟩
     rw [if_pos (by omega)]
    ·rw [PutR.out hin] at h1
     rw [h1]
     simp only
     have ih := ih (c + w.size) (by omega)
     by_cases hin2 : c + w.size ≤ a ∧ a < c + w.size + Tm.sizeL r
     ·rw [PutR.inn hin2] at ih
      obtain ⟨c', e, h3, h4⟩ := ih
      rw [e, PutR.inn (by omega)]
      refine ⟨c', ?_, h3, by omega⟩
      rw [if_neg (by omega)]
      have : a - c - w.size = a - (c + w.size) := by omega
      rw [this]
     ·rw [PutR.out hin2] at ih
      rw [ih, PutR.out (by omega)]
      have : c + w.size + Tm.sizeL r = c + (w.size + Tm.sizeL r) := by omega
      rw [this]
  have hsz := Tm.size_ks t
  have hp := Tm.size_pos t
  unfold qcv
  rw [qlR (by omega)]
  by_cases ha : c = a
  ·subst ha
   rw [if_pos rfl]
   rw [PutR.inn (by omega)]
   simp only [Bool.false_eq_true, if_false]
   refine ⟨c + 1, ?_, by omega, by omega⟩
   rw [Nat.sub_self, Tm.put1]
  ·rw [if_neg (fun h => ha (Int.ofNat.inj h))]
   simp only [if_true]
   have := hk (decide (t.k = 11)) t.ks 0 (c + 1) (fun v hv => by have := Tm.sizeL_mem hv; omega) (by omega)
   by_cases hin : c + 1 ≤ a ∧ a < c + 1 + Tm.sizeL t.ks
   ·rw [PutR.inn hin] at this
    obtain ⟨c', e, h3, h4⟩ := this
    rw [e, PutR.inn (by omega)]
    refine ⟨c', ?_, h3, by omega⟩
    simp only
    have : a - c = (a - (c + 1)) + 1 := by omega
    rw [this, Tm.put1_succ]
   ·rw [PutR.out hin] at this
    rw [this, PutR.out (by omega)]
    simp only
    have : c + 1 + Tm.sizeL t.ks = c + t.size := by omega
    rw [this, Tm.with_ks]
end Go.AI
namespace Go.AI.Tryz
def RP (a : Int) (u : Tm) (q : Nat × qaM) (c : Int) (_ : qaM) (s : ASt) : Prop := s.heap = (q.1 + 2, .cells [i64 c]) :: (q.1 + 1, .cells u.c) :: (q.1, .cells [i64 a]) :: q.2
end Go.AI.Tryz
namespace Go.AI.Tryz
def Lk (x : Sc) (t : Tm) (y : Sc) (t' : Tm) : Prop := szF x t = szF y t' ∧ ∀ b, qdt szF x t b = qdt szF y t' b
def LkK (sx sy : Nat → Sc) : Nat → List Tm → List Tm → Prop
 | _, [], [] => True
 | j, u :: r, w :: q => Lk (sx j) u (sy j) w ∧ LkK sx sy (j + 1) r q
 | _, _, _ => False
theorem qlT {x : Sc} {t : Tm} (h : t.k ≠ 16) (h2 : t.k ≠ 17) (b : Bs) : qdt szF x t b = (!b.cell && is2 (szF x t) b.n) := by
 unfold qdt
 rw [if_neg h, if_neg h2]
 cases b.cell <;> simp
theorem qoo {x : Sc} (i : Int) (b : Bs) : qdt szF x (.cel i) b = (b.cell && (match x.get i with | some e => e.ty.res.cell && decide (e.ty.res.n = b.n) | none => false)) := by
 unfold qdt
 rw [qcy (.cel i)]
 cases b.cell with
 | true => simp only [if_true, Bool.true_and, Tm.k_mk, Tm.i_mk]; rfl
 | false =>
  simp only [Bool.false_eq_true, if_false, qfj, Bool.false_and]
theorem qop {x : Sc} (u w : Tm) (b : Bs) : qdt szF x (.obj u w) b = (b.cell && (is2 (szF x u) b.n && is2 (szF (x.with ⟨⟨[], ⟨false, b.n⟩⟩, true⟩) w) 1)) := by
 unfold qdt
 rw [qcy (.obj u w)]
 cases b.cell with
 | true => simp only [if_true, Bool.true_and, Tm.k_mk, Tm.ks_mk, Int.reduceEq, if_false]
 | false =>
  simp only [Bool.false_eq_true, if_false, qd1, Bool.false_and]
theorem Lk.of_sz {x y : Sc} {t t' : Tm} (h : szF x t = szF y t') (h1 : t.k ≠ 16 ∧ t.k ≠ 17) (h2 : t'.k ≠ 16 ∧ t'.k ≠ 17) : Lk x t y t' := by
 refine ⟨h, fun b => ?_⟩
 rw [qlT h1.1 h1.2, qlT h2.1 h2.2, h]
theorem qu0 {x : Sc} {t : Tm} (h : (szF x t).2 = true) : t.k ≠ 16 ∧ t.k ≠ 17 := by
 cases qdk h with
 | cel i => rw [qfj] at h; cases h
 | obj u w => rw [qd1] at h; cases h
 | _ => exact ⟨by simp [Tm.k], by simp [Tm.k]⟩
theorem Lk.of_ok {x y : Sc} {t t' : Tm} (h : szF x t = szF y t') (h1 : (szF x t).2 = true) : Lk x t y t' := Lk.of_sz h (qu0 h1) (qu0 (by rw [← h]; exact h1))
theorem LkK.args {x y : Sc} : ∀ {ks ks' : List Tm} (j : Nat) {ps : List Bs}, LkK (fun _ => x) (fun _ => y) j ks ks' → qbx (qdt szF x) ks ps = qbx (qdt szF y) ks' ps
 | [], [], _, ps, _ => by cases ps <;> rfl
 | u :: r, w :: q, j, ps, h => by
  unfold LkK at h
  cases ps with
  | nil => rfl
  | cons b ps =>
   simp only [qbx, h.1.2 b]
   rw [LkK.args (j + 1) h.2]
 | [], _ :: _, _, _, h => h.elim
 | _ :: _, [], _, _, h => h.elim
theorem Lk.node {x y : Sc} {t t' : Tm} (hs : Sh t) (hs' : Sh t') (hk : t'.k = t.k) (hm : t'.m = t.m) (hn : t.k ≠ 12 → t'.n = t.n) (h12 : t.k = 12 → qbr t.n x.size = qbr t'.n y.size) (hi : x.get t.i = y.get t'.i)
  (h18 : t.k = 18 → decide (x.top < t.i) = decide (y.top < t'.i)) (hks : LkK (x.kid t) (y.kid t') 0 t.ks t'.ks) : Lk x t y t' := by
 cases hs <;> cases hs' <;> first | (exfalso; revert hk; simp only [Tm.k_mk, Int.reduceEq, imp_self]; done) | skip
 case num.num n m n' m' =>
  have e1 : n' = n := hn (by simp [Tm.k])
  have e2 : m' = m := hm
  subst e1 e2
  exact Lk.of_sz (by rw [qdq, qdq]) (by simp [Tm.k]) (by simp [Tm.k])
 case use.use i ks i' ks' =>
  have e : x.get i = y.get i' := hi
  have hks : LkK (fun _ => x) (fun _ => y) 0 ks ks' := hks
  refine Lk.of_sz ?_ (by simp [Tm.k]) (by simp [Tm.k])
  rw [qgs, qgs, e, hks.args]
 case get.get i i' =>
  have e : x.get i = y.get i' := hi
  refine Lk.of_sz ?_ (by simp [Tm.k]) (by simp [Tm.k])
  rw [qhs, qhs, e]
 case put.put i u i' u' =>
  have e : x.get i = y.get i' := hi
  have h1 : szF x u = szF y u' := hks.1.1
  refine Lk.of_sz ?_ (by simp [Tm.k]) (by simp [Tm.k])
  rw [qeD, qeD, e, h1]
 case op.op n m u w n' m' u' w' =>
  have e1 : n' = n := hn (by simp [Tm.k])
  have e2 : m' = m := hm
  subst e1 e2
  have h1 : szF x u = szF y u' := hks.1.1
  have h2 : szF x w = szF y w' := hks.2.1.1
  refine Lk.of_sz ?_ (by simp [Tm.k]) (by simp [Tm.k])
  rw [qeE, qeE, h1, h2]
 case az.az n u n' u' =>
  have e1 : n' = n := hn (by simp [Tm.k])
  subst e1
  have h1 : szF x u = szF y u' := hks.1.1
  refine Lk.of_sz ?_ (by simp [Tm.k]) (by simp [Tm.k])
  rw [qeF, qeF, h1]
 case seq.seq u w u' w' =>
  have h1 : szF x u = szF y u' := hks.1.1
  have h2 : szF x w = szF y w' := hks.2.1.1
  refine Lk.of_sz ?_ (by simp [Tm.k]) (by simp [Tm.k])
  rw [qbO, qbO, h1, h2]
 case ite.ite c u w c' u' w' =>
  have h0 : szF x c = szF y c' := hks.1.1
  have h1 : szF x u = szF y u' := hks.2.1.1
  have h2 : szF x w = szF y w' := hks.2.2.1.1
  refine Lk.of_sz ?_ (by simp [Tm.k]) (by simp [Tm.k])
  rw [qch, qch, h0, h1, h2]
 case whl.whl u w u' w' =>
  have h1 : szF x u = szF y u' := hks.1.1
  have h2 : szF x w = szF y w' := hks.2.1.1
  refine Lk.of_sz ?_ (by simp [Tm.k]) (by simp [Tm.k])
  rw [qfi, qfi, h1, h2]
 case new.new n m u n' m' u' =>
  have e1 : n' = n := hn (by simp [Tm.k])
  have e2 : m' = m := hm
  subst e1 e2
  have h1 : szF (x.with ⟨⟨[], ⟨true, n'⟩⟩, false⟩) u = szF (y.with ⟨⟨[], ⟨true, n'⟩⟩, false⟩) u' := hks.1.1
  refine Lk.of_sz ?_ (by simp [Tm.k]) (by simp [Tm.k])
  rw [qeG, qeG, h1]
 case lbl.lbl u w u' w' =>
  have h1 : szF { x with size := x.size + 1 } u = szF { y with size := y.size + 1 } u' := hks.1.1
  have h2 : szF x w = szF y w' := hks.2.1.1
  refine Lk.of_sz ?_ (by simp [Tm.k]) (by simp [Tm.k])
  rw [qdZ, qdZ, h1, h2]
 case jmp.jmp n n' =>
  refine Lk.of_sz ?_ (by simp [Tm.k]) (by simp [Tm.k])
  rw [qlH, qlH]
  exact congrArg _ (h12 rfl)
 case cho.cho u w u' w' =>
  have h1 : szF x u = szF y u' := hks.1.1
  have h2 : szF x w = szF y w' := hks.2.1.1
  refine Lk.of_sz ?_ (by simp [Tm.k]) (by simp [Tm.k])
  rw [qd0, qd0, h1, h2]
 case hang.hang => exact Lk.of_sz (by rw [qij, qij]) (by simp [Tm.k]) (by simp [Tm.k])
 case val.val i i' =>
  have e : x.get i = y.get i' := hi
  refine Lk.of_sz ?_ (by simp [Tm.k]) (by simp [Tm.k])
  rw [qht, qht, e]
 case cel.cel i i' =>
  have e : x.get i = y.get i' := hi
  refine ⟨by rw [qfj, qfj], fun b => ?_⟩
  rw [qoo, qoo, e]
 case obj.obj u w u' w' =>
  have h1 : szF x u = szF y u' := hks.1.1
  have h2 : szF (x.with ⟨⟨[], ⟨false, (szF x u).1⟩⟩, true⟩) w = szF (y.with ⟨⟨[], ⟨false, (szF y u').1⟩⟩, true⟩) w' := hks.2.1.1
  refine ⟨by rw [qd1, qd1], fun b => ?_⟩
  rw [qop, qop]
  by_cases hb : (szF x u).1 = b.n
  ·rw [← h1, hb] at h2
   rw [h1, h2]
  ·have : is2 (szF x u) b.n = false := by simp only [is2, hb, decide_false, Bool.and_false]
   rw [← h1, this]
   simp only [Bool.false_and]
 case ntc.ntc n i u n' i' u' =>
  have e1 : n' = n := hn (by simp [Tm.k])
  subst e1
  have e : x.get i = y.get i' := hi
  have h1 : szF x u = szF y u' := hks.1.1
  have h3 : decide (x.top < i) = decide (y.top < i') := h18 rfl
  refine Lk.of_sz ?_ (by simp [Tm.k]) (by simp [Tm.k])
  rw [qd2, qd2, h1, e, h3]
theorem qoq {x : Sc} {t : Tm} : Lk x t x t := ⟨rfl, fun _ => rfl⟩
theorem qlU {sx : Nat → Sc} : ∀ (j : Nat) (l : List Tm), LkK sx sx j l l
 | _, [] => trivial
 | j, _ :: r => ⟨qoq, qlU (j + 1) r⟩
end Go.AI.Tryz
namespace Go.AI.Tryz
theorem qkR {t : Tm} (h : Sh t) {ks : List Tm} (hl : ks.length = t.ks.length) : Sh (t.with ks) := by
 have h1 := qcy h
 refine qn1 ?_
 rw [← h1]
 obtain ⟨k, n, m, i, l⟩ := t
 simp only [Tm.ks] at hl
 show (match qcg formL k with | none => false | some f => (((f.n || decide (n = 0)) && (f.m || decide (m = 0))) && (f.i || decide (i = 0))) && (decide (f.k < 0) || decide (f.k = Int.ofNat ks.length))) = _
 simp only [hl]
 rfl
theorem qrL {t : Tm} (h : t.Ok) {ks : List Tm} (hl : ks.length = t.ks.length) (hk : ∀ u ∈ ks, u.Ok) : (t.with ks).Ok := by
 cases h with
 | mk h1 h2 h3 h4 h5 h6 => exact .mk h1 h2 h3 h4 (by simp only [Tm.ks] at hl; omega) hk
theorem qpO {x : Sc} {t : Tm} {ks : List Tm} (h : t.k = 17 → (szF x (t.ks.headD .z)).1 = (szF x (ks.headD .z)).1) (j : Nat) : x.kid (t.with ks) j = x.kid t j := by
 obtain ⟨k, n, m, i, l⟩ := t
 simp only [Sc.kid, Tm.with, Tm.k, Tm.n, Tm.ks] at h ⊢
 by_cases hk : k = 17
 ·rw [h hk]
  rfl
 ·have : ¬ (k = 17 ∧ j = 1) := fun h => hk h.1
  simp only [this, if_false]
  rfl
theorem LkK.hd {sx sy : Nat → Sc} {l m : List Tm} (h : LkK sx sy 0 l m) : (szF (sx 0) (l.headD .z)).1 = (szF (sy 0) (m.headD .z)).1 ∨ l = [] ∧ m = [] := by
 match l, m, h with
 | [], [], _ => exact .inr ⟨rfl, rfl⟩
 | u :: r, w :: q, h => exact .inl (by simp only [List.headD_cons]; rw [h.1.1])
theorem qgB {x : Sc} {t : Tm} (h : t.k = 17) : x.kid t 0 = x := by
 unfold Sc.kid
 rw [if_neg (by omega), if_neg (by simp), if_neg (by omega)]
theorem Lk.with {x : Sc} {t : Tm} {ks : List Tm} (h : Sh t) (hl : ks.length = t.ks.length) (hk : LkK (x.kid t) (x.kid t) 0 t.ks ks) : Lk x t x (t.with ks) := by
 have e : ∀ j, x.kid (t.with ks) j = x.kid t j := qpO fun h17 => by
  rcases hk.hd with h | ⟨h1, h2⟩
  ·rw [qgB h17] at h; exact h
  ·rw [h1, h2]
 refine Lk.node h (qkR h hl) ?_ ?_ ?_ ?_ ?_ ?_ ?_
 ·cases t; rfl
 ·cases t; rfl
 ·cases t; intro _; rfl
 ·cases t; intro _; rfl
 ·cases t; rfl
 ·cases t; intro _; rfl
 ·rw [show x.kid (t.with ks) = x.kid t from funext e]
  cases t; exact hk
structure PutOk (x : Sc) (t : Tm) (p : Sc × Tm) (u r : Tm) : Prop where
 tr : Lk x t x r
 size : r.size + p.2.size = t.size + u.size
 ok : r.Ok
 sh : Sh r
theorem qlV (u : Tm) : ∀ (ks : List Tm) (j : Nat), (Tm.putL u j ks).length = ks.length
 | [], j => by cases j <;> rfl
 | k :: r, j => by
  unfold Tm.putL
  split
  ·rfl
  ·simp only [List.length_cons, qlV u r]
theorem qiY {u : Tm} (hu : u.Ok) {p : Sc × Tm} (hp : Lk p.1 p.2 p.1 u) (hsu : Sh u) : ∀ (d : Nat) (t : Tm) (x : Sc) (j : Nat), t.size ≤ d → (qbm t x)[j]? = some p → Nd x t → PutOk x t p u (Tm.put1 u j t)
 | 0, t, _, _, h, _, _ => by have := Tm.size_pos t; omega
 | d + 1, t, x, 0, hd, hj, hn => by
  rw [qdV] at hj
  simp only [List.getElem?_cons_zero, Option.some.injEq] at hj
  subst hj
  unfold Tm.put1
  exact ⟨hp, by show u.size + t.size = _; omega, hu, hsu⟩
 | d + 1, t, x, j + 1, hd, hj, hn => by
  rw [qdV] at hj
  simp only [List.getElem?_cons_succ] at hj
  have hK : ∀ (r : List Tm) (sc : Nat → Sc) (m j : Nat), (∀ w ∈ r, w.size ≤ d ∧ w.Ok) → (∀ i w, r[i]? = some w → Nd (sc (m + i)) w) → (qby sc m r)[j]? = some p →
    LkK sc sc m r (Tm.putL u j r) ∧ Tm.sizeL (Tm.putL u j r) + p.2.size = Tm.sizeL r + u.size ∧ ∀ w ∈ Tm.putL u j r, w.Ok := by
   intro r
   induction r with
   | nil => intro sc m j _ _ h; simp [qby] at h
   | cons k r ih =>
    intro sc m j hsz hnd h
    simp only [qby] at h
    unfold Tm.putL
    by_cases hlt : j < k.size
    ·rw [if_pos hlt]
     rw [List.getElem?_append_left (by rw [qda]; exact hlt)] at h
     obtain ⟨h1, h2, h3, h4⟩ := qiY hu hp hsu d k (sc m) j (hsz k (List.mem_cons_self ..)).1 h (hnd 0 k rfl)
     refine ⟨⟨h1, qlU _ _⟩, by simp only [Tm.sizeL]; omega, fun w hw => ?_⟩
     rcases List.mem_cons.1 hw with rfl | hw
     ·exact h3
     ·exact (hsz w (List.mem_cons_of_mem _ hw)).2
    ·rw [if_neg hlt]
     rw [List.getElem?_append_right (by rw [qda]; omega), qda] at h
     obtain ⟨h1, h2, h3⟩ := ih sc (m + 1) (j - k.size) (fun w hw => hsz w (List.mem_cons_of_mem _ hw)) (fun i w hi => by
      have := hnd (i + 1) w (by simpa using hi)
      rw [show m + 1 + i = m + (i + 1) by omega]
      exact this) h
     refine ⟨⟨qoq, h1⟩, by simp only [Tm.sizeL]; omega, fun w hw => ?_⟩
     rcases List.mem_cons.1 hw with rfl | hw
     ·exact (hsz w (List.mem_cons_self ..)).2
     ·exact h3 w hw
  obtain ⟨h1, h2, h3⟩ := hK t.ks (fun j => x.kid t j) 0 j (fun w hw => ⟨by have := qa1 hw; omega, hn.ok.kids w hw⟩) (fun i w hi => by rw [Nat.zero_add]; exact hn.kid hi) hj
  rw [Tm.put1_succ]
  have hl := qlV u t.ks j
  refine ⟨Lk.with hn.sh hl h1, ?_, qrL hn.ok hl h3, qkR hn.sh hl⟩
  have e1 := Tm.size_ks t
  have e2 := Tm.size_ks (t.with (Tm.putL u j t.ks))
  have e3 : (t.with (Tm.putL u j t.ks)).ks = Tm.putL u j t.ks := by cases t; rfl
  rw [e3] at e2
  omega
end Go.AI.Tryz
namespace Go.AI.Tryz
structure Good (x : Sc) (t u : Tm) : Prop where
 sz : szF x t = szF x u
 ok2 : (szF x t).2 = true
 le : u.size ≤ t.size
 ok : u.Ok
theorem qhx {n m : Int} (h : 0 ≤ n ∧ n ≤ 64) (hm : 0 ≤ m ∧ m ≤ 64) : (Tm.num n m).Ok := .mk (by decide) (by omega) (by omega) (by decide) (by decide) (fun _ h => by cases h)
theorem ok1_of {k n m i : Int} {a : Tm} (hk : 0 ≤ k ∧ k < 256) (hn : -9223372036854775808 ≤ n ∧ n ≤ 9223372036854775807) (hm : -9223372036854775808 ≤ m ∧ m ≤ 9223372036854775807) (hi : -9223372036854775808 ≤ i ∧ i ≤ 9223372036854775807) (ha : a.Ok) : (Tm.mk k n m i [a]).Ok :=
 .mk hk hn hm hi (by rw [qbN]; simp only [List.length_cons, List.length_nil]; omega) fun u hu => by
  simp only [List.mem_cons, List.not_mem_nil, or_false] at hu
  subst hu; exact ha
theorem ok2_of {k n m i : Int} {a b : Tm} (hk : 0 ≤ k ∧ k < 256) (hn : -9223372036854775808 ≤ n ∧ n ≤ 9223372036854775807) (hm : -9223372036854775808 ≤ m ∧ m ≤ 9223372036854775807) (hi : -9223372036854775808 ≤ i ∧ i ≤ 9223372036854775807) (ha : a.Ok) (hb : b.Ok) : (Tm.mk k n m i [a, b]).Ok :=
 .mk hk hn hm hi (by rw [qbN]; simp only [List.length_cons, List.length_nil]; omega) fun u hu => by
  simp only [List.mem_cons, List.not_mem_nil, or_false] at hu
  rcases hu with rfl | rfl
  ·exact ha
  ·exact hb
theorem ok3_of {k n m i : Int} {a b c : Tm} (hk : 0 ≤ k ∧ k < 256) (hn : -9223372036854775808 ≤ n ∧ n ≤ 9223372036854775807) (hm : -9223372036854775808 ≤ m ∧ m ≤ 9223372036854775807) (hi : -9223372036854775808 ≤ i ∧ i ≤ 9223372036854775807) (ha : a.Ok) (hb : b.Ok) (hc : c.Ok) : (Tm.mk k n m i [a, b, c]).Ok :=
 .mk hk hn hm hi (by rw [qbN]; simp only [List.length_cons, List.length_nil]; omega) fun u hu => by
  simp only [List.mem_cons, List.not_mem_nil, or_false] at hu
  rcases hu with rfl | rfl | rfl
  ·exact ha
  ·exact hb
  ·exact hc
theorem qbY {t : Tm} (h : t.Ok) : (0 ≤ t.k ∧ t.k < 256) ∧ (-9223372036854775808 ≤ t.n ∧ t.n ≤ 9223372036854775807) ∧ (-9223372036854775808 ≤ t.m ∧ t.m ≤ 9223372036854775807) ∧ (-9223372036854775808 ≤ t.i ∧ t.i ≤ 9223372036854775807) := by cases h with | mk h1 h2 h3 h4 _ _ => exact ⟨h1, h2, h3, h4⟩
theorem z64 : (-9223372036854775808 : Int) ≤ 0 ∧ (0 : Int) ≤ 9223372036854775807 := by decide
theorem o64 : (-9223372036854775808 : Int) ≤ 1 ∧ (1 : Int) ≤ 9223372036854775807 := by decide
theorem qiu {a m : Int} (ha : 0 ≤ a) (hm : 1 ≤ m) : 0 ≤ a.tmod m ∧ a.tmod m < m := by
 rw [Int.tmod_eq_emod_of_nonneg ha]
 exact ⟨Int.emod_nonneg _ (by omega), Int.emod_lt_of_pos _ (by omega)⟩
theorem qtk {n m a b : Int} (hm : 1 ≤ m) (ha : 0 ≤ a) (hb : 0 ≤ b) (hb2 : b < m) : (n = 1 ∨ n = 2 ∨ n = 3 → 0 ≤ qlJ n m a b ∧ qlJ n m a b < m) ∧ (n = 4 ∨ n = 5 → 0 ≤ qlJ n m a b ∧ qlJ n m a b < 2) := by
 unfold qlJ
 refine ⟨fun h => ?_, fun h => ?_⟩
 ·rcases h with rfl | rfl | rfl
  ·exact qiu (by omega) hm
  ·exact qiu (by omega) hm
  ·exact qiu (Int.mul_nonneg ha hb) hm
 ·rcases h with rfl | rfl <;> simp only [Int.reduceEq, if_false, if_true]
  ·cases decide (a = b) <;> simp
  ·cases decide (a < b) <;> simp
theorem qmz {x : Sc} {t : Tm} {n m : Int} (h : (szF x t).2 = true) (hn : qck t n m = true) : t = .num n m := by
 simp only [qck, Bool.and_eq_true, decide_eq_true_eq] at hn
 obtain ⟨p, q, rfl⟩ := qe0 (qdk h) hn.1
 rw [show p = n from hn.2.1, show q = m from hn.2.2]
theorem qrM {x : Sc} {t r : Tm} (h : Nd x t) (e : opR x t = some r) : Good x t r := by
 by_cases hk : t.k = 5
 ·have hsz := h.gd.sz (by omega) (by omega)
  have hok := h.ok
  have hko := hok.kids
  have hf := qbY hok
  have hsc := h.sc
  cases h.sh with
  | op n m a b =>
   have e : (if qaN a && qaN b then some (.num (qlJ n m a.n b.n) (szF x (.op n m a b)).1) else none) = some r := e
   split at e
   ·rename_i hab
    simp only [Bool.and_eq_true] at hab
    simp only [Option.some.injEq] at e
    subst e
    have hs2 := hsz
    rw [qeE] at hs2 ⊢
    have hin : qbt m = true ∧ is2 (szF x a) m = true ∧ is2 (szF x b) m = true := by
     split at hs2
     ·simpa only [Bool.and_eq_true] using hs2
     ·split at hs2
      ·simpa only [Bool.and_eq_true] using hs2
      ·cases hs2
    obtain ⟨h1, h2, h3⟩ := hin
    rw [is2_iff] at h2 h3
    have ra := qdI (x := x) (by rw [h2]) hab.1
    have rb := qdI (x := x) (by rw [h3]) hab.2
    rw [h2] at ra; rw [h3] at rb
    rw [isSize_iff] at h1
    have hr := qtk (n := n) (m := m) (a := a.n) (b := b.n) h1.1 ra.1 rb.1 (by have := rb.2.2.2; simp only at this; omega)
    by_cases hn : n = 1 ∨ n = 2 ∨ n = 3
    ·have hr := hr.1 hn
     rw [if_pos hn]
     refine ⟨?_, hsz, ?_, qhx (by omega) (by simp only; omega)⟩
     ·rw [qeE, qdq, if_pos hn, h2, h3]
      simp only [is2, decide_true, Bool.and_true, isSize_iff.2 h1, isBelow_iff.2 hr]
     ·simp only [Tm.size, Tm.sizeL]; omega
    ·rw [if_neg hn] at hs2 ⊢
     by_cases hn2 : n = 4 ∨ n = 5
     ·have hr := hr.2 hn2
      rw [if_pos hn2]
      refine ⟨?_, hsz, ?_, qhx (by omega) (by simp only; omega)⟩
      ·rw [qeE, qdq, if_neg hn, if_pos hn2, h2, h3]
       simp only [is2, decide_true, Bool.and_true, isSize_iff.2 h1, isBelow_iff.2 hr, isSize_iff.2 (show 1 ≤ (2:Int) ∧ (2:Int) ≤ 64 by decide)]
      ·simp only [Tm.size, Tm.sizeL]; omega
     ·rw [if_neg hn2] at hs2; cases hs2
   ·cases e
  | _ => simp only [Tm.k_mk] at hk; omega
 ·unfold opR at e; rw [if_neg hk] at e; cases e
theorem qrN {x : Sc} {t r : Tm} (h : Nd x t) (e : asR t = some r) : Good x t r := by
 by_cases hk : t.k = 6
 ·have hsz := h.gd.sz (by omega) (by omega)
  have hok := h.ok
  have hko := hok.kids
  have hf := qbY hok
  have hsc := h.sc
  cases h.sh with
  | az n u =>
   have e : (if qaN u then some (.num (u.n.tmod n) n) else none) = some r := e
   split at e
   ·rename_i hu
    simp only [Option.some.injEq] at e
    subst e
    have hs2 := hsz
    rw [qeF, Bool.and_eq_true, isSize_iff] at hs2
    have ra := qdI (x := x) hs2.1 hu
    have hr := qiu ra.1 hs2.2.1
    refine ⟨?_, hsz, by simp only [Tm.size, Tm.sizeL]; omega, qhx (by omega) (by omega)⟩
    rw [qeF, qdq, hs2.1, isSize_iff.2 hs2.2, isBelow_iff.2 hr]
   ·cases e
  | _ => simp only [Tm.k_mk] at hk; omega
 ·unfold asR at e; rw [if_neg hk] at e; cases e
theorem qor {x : Sc} {t r : Tm} (h : Nd x t) (e : qkH x t = some r) : Good x t r := by
 by_cases hk : t.k = 6
 ·have hsz := h.gd.sz (by omega) (by omega)
  have hok := h.ok
  have hko := hok.kids
  have hf := qbY hok
  have hsc := h.sc
  cases h.sh with
  | az n u =>
   have e : (if !qaN u && decide ((szF x u).1 = n) then some u else none) = some r := e
   split at e
   ·rename_i hu
    simp only [Bool.and_eq_true, decide_eq_true_eq] at hu
    simp only [Option.some.injEq] at e
    subst e
    have hs2 := hsz
    rw [qeF, Bool.and_eq_true] at hs2
    refine ⟨?_, hsz, by simp only [Tm.size, Tm.sizeL]; omega, hko _ (by simp [Tm.ks])⟩
    rw [qeF, hs2.1, hs2.2, ← hu.2, Bool.and_self, ← hs2.1]
   ·cases e
  | _ => simp only [Tm.k_mk] at hk; omega
 ·unfold qkH at e; rw [if_neg hk] at e; cases e
theorem qjR {x : Sc} {t r : Tm} (h : Nd x t) (e : qdl t = some r) : Good x t r := by
 by_cases hk : t.k = 5
 ·have hsz := h.gd.sz (by omega) (by omega)
  have hok := h.ok
  have hko := hok.kids
  have hf := qbY hok
  have hsc := h.sc
  cases h.sh with
  | op n m a b =>
   have e : (if (qkI n).isSome && (!qaN a && (qaN b && decide (b.n = (qkI n).getD 0))) then some a else none) = some r := e
   split at e
   ·rename_i hu
    simp only [Bool.and_eq_true] at hu
    simp only [Option.some.injEq] at e
    subst e
    have hs2 := hsz
    rw [qeE] at hs2
    have hin : qbt m = true ∧ is2 (szF x a) m = true ∧ is2 (szF x b) m = true := by
     split at hs2
     ·simpa only [Bool.and_eq_true] using hs2
     ·split at hs2
      ·simpa only [Bool.and_eq_true] using hs2
      ·cases hs2
    obtain ⟨h1, h2, h3⟩ := hin
    have hn : n = 1 ∨ n = 2 ∨ n = 3 := by
     by_cases n1 : n = 1
     ·exact .inl n1
     ·by_cases n2 : n = 2
      ·exact .inr (.inl n2)
      ·by_cases n3 : n = 3
       ·exact .inr (.inr n3)
       ·have := hu.1
        simp only [qkI, n1, n2, n3, if_false, Option.isSome_none] at this
        cases this
    refine ⟨?_, hsz, by simp only [Tm.size, Tm.sizeL]; omega, hko _ (by simp [Tm.ks])⟩
    rw [qeE, if_pos hn, h1, h2, h3]
    rw [is2_iff] at h2
    rw [h2]; rfl
   ·cases e
  | _ => simp only [Tm.k_mk] at hk; omega
 ·unfold qdl at e; rw [if_neg hk] at e; cases e
theorem qos {x : Sc} {t r : Tm} (h : Nd x t) (e : qkJ t = some r) : Good x t r := by
 by_cases hk : t.k = 5
 ·have hsz := h.gd.sz (by omega) (by omega)
  have hok := h.ok
  have hko := hok.kids
  have hf := qbY hok
  have hsc := h.sc
  cases h.sh with
  | op n m a b =>
   have e : (if (decide (n = 1) || (decide (n = 3) || decide (n = 4))) && (qaN a && !qaN b) then some (.op n m b a) else none) = some r := e
   split at e
   ·simp only [Option.some.injEq] at e
    subst e
    refine ⟨?_, hsz, by simp only [Tm.size, Tm.sizeL]; omega, ok2_of (by decide) hf.2.1 hf.2.2.1 z64 (hko _ (by simp [Tm.ks])) (hko _ (by simp [Tm.ks]))⟩
    rw [qeE, qeE, Bool.and_comm (is2 (szF x a) m)]
   ·cases e
  | _ => simp only [Tm.k_mk] at hk; omega
 ·unfold qkJ at e; rw [if_neg hk] at e; cases e
theorem qrO {x : Sc} {t r : Tm} (h : Nd x t) (e : ifR t = some r) : Good x t r := by
 by_cases hk : t.k = 8
 ·have hsz := h.gd.sz (by omega) (by omega)
  have hok := h.ok
  have hko := hok.kids
  have hf := qbY hok
  have hsc := h.sc
  cases h.sh with
  | ite c a b =>
   have e : (if qaN c then some (if c.n = 0 then b else a) else none) = some r := e
   split at e
   ·simp only [Option.some.injEq] at e
    have hs2 := hsz
    rw [qch, Bool.and_eq_true, Bool.and_eq_true, is2_iff] at hs2
    have ha : szF x (.ite c a b) = szF x a := by
     rw [qch, hs2.1.1, hs2.1.2, hs2.2]
     simp only [is2, decide_true, Bool.and_true]
     rw [← hs2.1.1]
    split at e
    ·subst e
     refine ⟨?_, hsz, by simp only [Tm.size, Tm.sizeL]; omega, hko _ (by simp [Tm.ks])⟩
     rw [ha, hs2.1.2, ← hs2.1.1]
    ·subst e
     exact ⟨ha, hsz, by simp only [Tm.size, Tm.sizeL]; omega, hko _ (by simp [Tm.ks])⟩
   ·cases e
  | _ => simp only [Tm.k_mk] at hk; omega
 ·unfold ifR at e; rw [if_neg hk] at e; cases e
theorem qot {x : Sc} {t r : Tm} (h : Nd x t) (e : qkK t = some r) : Good x t r := by
 by_cases hk : t.k = 8
 ·have hsz := h.gd.sz (by omega) (by omega)
  have hok := h.ok
  have hko := hok.kids
  have hf := qbY hok
  have hsc := h.sc
  cases h.sh with
  | ite c a b =>
   have e : (if !qaN c && decide (a = b) then some (.seq (.az 1 c) a) else none) = some r := e
   split at e
   ·rename_i hu
    simp only [Bool.and_eq_true, decide_eq_true_eq] at hu
    simp only [Option.some.injEq] at e
    subst e
    have hs2 := hsz
    rw [qch, Bool.and_eq_true, Bool.and_eq_true, is2_iff] at hs2
    refine ⟨?_, hsz, ?_, ok2_of (by decide) z64 z64 z64 (ok1_of (by decide) o64 z64 z64 (hko _ (by simp [Tm.ks]))) (hko _ (by simp [Tm.ks]))⟩
    ·rw [qch, qbO, qeF, hs2.1.1, hs2.1.2, hs2.2]
     simp only [is2, decide_true, Bool.and_true, Bool.true_and]
     rfl
    ·rw [← hu.2]
     simp only [Tm.size, Tm.sizeL]
     have := Tm.size_pos a
     omega
   ·cases e
  | _ => simp only [Tm.k_mk] at hk; omega
 ·unfold qkK at e; rw [if_neg hk] at e; cases e
theorem qou {x : Sc} {t r : Tm} (h : Nd x t) (e : qkL x t = some r) : Good x t r := by
 by_cases hk : t.k = 8
 ·have hsz := h.gd.sz (by omega) (by omega)
  have hok := h.ok
  have hko := hok.kids
  have hf := qbY hok
  have hsc := h.sc
  cases h.sh with
  | ite c a b =>
   have e : (if qck a 1 2 && (qck b 0 2 && (!qaN c && decide ((szF x c).1 = 2))) then some c else none) = some r := e
   split at e
   ·rename_i hu
    simp only [Bool.and_eq_true, decide_eq_true_eq] at hu
    simp only [Option.some.injEq] at e
    subst e
    have hs2 := hsz
    rw [qch, Bool.and_eq_true, Bool.and_eq_true, is2_iff] at hs2
    have ha := qmz hs2.1.1 hu.1
    refine ⟨?_, hsz, by simp only [Tm.size, Tm.sizeL]; omega, hko _ (by simp [Tm.ks])⟩
    have h1 : (szF x a).1 = 2 := by rw [ha, qdq]
    rw [qch, hs2.1.1, hs2.1.2, hs2.2, h1, ← hu.2.2.2]
    simp only [is2, decide_true, Bool.and_true]
    rw [← hs2.2]
   ·cases e
  | _ => simp only [Tm.k_mk] at hk; omega
 ·unfold qkL at e; rw [if_neg hk] at e; cases e
theorem qov {x : Sc} {t r : Tm} (h : Nd x t) (e : qkM t = some r) : Good x t r := by
 by_cases hk : t.k = 7
 ·have hsz := h.gd.sz (by omega) (by omega)
  have hok := h.ok
  have hko := hok.kids
  have hf := qbY hok
  have hsc := h.sc
  cases h.sh with
  | seq a b =>
   have e : (if qaN a then some b else none) = some r := e
   split at e
   ·simp only [Option.some.injEq] at e
    subst e
    have hs2 := hsz
    rw [qbO, Bool.and_eq_true] at hs2
    refine ⟨?_, hsz, by simp only [Tm.size, Tm.sizeL]; omega, hko _ (by simp [Tm.ks])⟩
    rw [qbO, hs2.2, Bool.and_true]
   ·cases e
  | _ => simp only [Tm.k_mk] at hk; omega
 ·unfold qkM at e; rw [if_neg hk] at e; cases e
theorem qow {x : Sc} {t r : Tm} (h : Nd x t) (e : qgX x t = some r) : Good x t r := by
 by_cases hk : t.k = 7
 ·have hsz := h.gd.sz (by omega) (by omega)
  have hok := h.ok
  have hko := hok.kids
  have hf := qbY hok
  have hsc := h.sc
  cases h.sh with
  | seq a b =>
   have e : (if a.k = 12 ∨ a.k = 14 then (if !decide (b = .num 0 (szF x (.seq a b)).1) then some (.seq a (.num 0 (szF x (.seq a b)).1)) else none) else none) = some r := e
   split at e
   ·split at e
    ·simp only [Option.some.injEq] at e
     subst e
     have hr := qfL _ (.seq a b) x (Nat.le_refl _) hsc hsz
     have hs2 := hsz
     rw [qbO, Bool.and_eq_true] at hs2
     refine ⟨?_, hsz, ?_, ok2_of (by decide) z64 z64 z64 (hko _ (by simp [Tm.ks])) (qhx (by omega) (by omega))⟩
     ·rw [qbO, qbO, qdq, hs2.1, hs2.2]
      rw [qbO] at hr
      rw [isSize_iff.2 hr, isBelow_iff.2 (by omega)]; rfl
     ·simp only [Tm.size, Tm.sizeL]
      have := Tm.size_pos b
      omega
    ·cases e
   ·cases e
  | _ => simp only [Tm.k_mk] at hk; omega
 ·unfold qgX at e; rw [if_neg hk] at e; cases e
theorem qmA {x : Sc} {t r : Tm} (h : Nd x t) (e : qgt t = some r) : Good x t r := by
 by_cases hk : t.k = 9
 ·have hsz := h.gd.sz (by omega) (by omega)
  have hok := h.ok
  have hko := hok.kids
  have hf := qbY hok
  have hsc := h.sc
  cases h.sh with
  | whl c b =>
   have e : (if qaN c && decide (c.n = 0) then some (.num 0 1) else none) = some r := e
   split at e
   ·simp only [Option.some.injEq] at e
    subst e
    have hs2 := hsz
    rw [qfi] at hs2
    simp only at hs2
    refine ⟨?_, hsz, by simp only [Tm.size, Tm.sizeL]; omega, qhx (by decide) (by decide)⟩
    rw [qfi, qdq, hs2]; rfl
   ·cases e
  | _ => simp only [Tm.k_mk] at hk; omega
 ·unfold qgt at e; rw [if_neg hk] at e; cases e
theorem qox {x : Sc} {t r : Tm} (h : Nd x t) (e : qkN t = some r) : Good x t r := by
 by_cases hk : t.k = 11
 ·have hsz := h.gd.sz (by omega) (by omega)
  have hok := h.ok
  have hko := hok.kids
  have hf := qbY hok
  have hsc := h.sc
  cases h.sh with
  | lbl u w =>
   have e : (if decide (u.k = 12) && decide (u.n = 0) then some w else none) = some r := e
   split at e
   ·simp only [Option.some.injEq] at e
    subst e
    have hs2 := hsz
    rw [qdZ, Bool.and_eq_true, is2_iff] at hs2
    refine ⟨?_, hsz, by simp only [Tm.size, Tm.sizeL]; omega, hko _ (by simp [Tm.ks])⟩
    rw [qdZ, hs2.1, hs2.2]
    simp only [is2, decide_true, Bool.and_true]
   ·cases e
  | _ => simp only [Tm.k_mk] at hk; omega
 ·unfold qkN at e; rw [if_neg hk] at e; cases e
theorem qkS {x : Sc} {t r : Tm} (h : Nd x t) (e : qel t = some r) : Good x t r := by
 by_cases hk : t.k = 13
 ·have hsz := h.gd.sz (by omega) (by omega)
  have hok := h.ok
  have hko := hok.kids
  have hf := qbY hok
  have hsc := h.sc
  cases h.sh with
  | cho a b =>
   have e : (if decide (a = b) then some a else none) = some r := e
   split at e
   ·simp only [Option.some.injEq] at e
    subst e
    have hs2 := hsz
    rw [qd0, Bool.and_eq_true, is2_iff] at hs2
    refine ⟨?_, hsz, by simp only [Tm.size, Tm.sizeL]; omega, hko _ (by simp [Tm.ks])⟩
    rw [qd0, hs2.1, hs2.2]
    simp only [is2, decide_true, Bool.and_true]
    rw [← hs2.1]
   ·cases e
  | _ => simp only [Tm.k_mk] at hk; omega
 ·unfold qel at e; rw [if_neg hk] at e; cases e
theorem qmB {x : Sc} {t r : Tm} (h : Nd x t) (e : qfk t = some r) : Good x t r := by
 by_cases hk : t.k = 13
 ·have hsz := h.gd.sz (by omega) (by omega)
  have hok := h.ok
  have hko := hok.kids
  have hf := qbY hok
  have hsc := h.sc
  cases h.sh with
  | cho a b =>
   have e : (if a.k = 14 then some b else if b.k = 14 then some a else none) = some r := e
   have hs2 := hsz
   rw [qd0, Bool.and_eq_true, is2_iff] at hs2
   have ha : szF x (.cho a b) = szF x a := by
    rw [qd0, hs2.1, hs2.2]
    simp only [is2, decide_true, Bool.and_true]
    rw [← hs2.1]
   split at e
   ·simp only [Option.some.injEq] at e
    subst e
    refine ⟨?_, hsz, by simp only [Tm.size, Tm.sizeL]; omega, hko _ (by simp [Tm.ks])⟩
    rw [ha, hs2.2, ← hs2.1]
   ·split at e
    ·simp only [Option.some.injEq] at e
     subst e
     exact ⟨ha, hsz, by simp only [Tm.size, Tm.sizeL]; omega, hko _ (by simp [Tm.ks])⟩
    ·cases e
  | _ => simp only [Tm.k_mk] at hk; omega
 ·unfold qfk at e; rw [if_neg hk] at e; cases e
theorem qkT {x : Sc} {t r : Tm} (h : Nd x t) (e : qem x t = some r) : Good x t r := by
 by_cases hk : t.k = 18
 ·have hsz := h.gd.sz (by omega) (by omega)
  have hok := h.ok
  have hko := hok.kids
  have hf := qbY hok
  have hsc := h.sc
  cases h.sh with
  | ntc n i u =>
   have e : (if !u.any (qjM x.top) 0 then some u else none) = some r := e
   split at e
   ·simp only [Option.some.injEq] at e
    subst e
    have hs2 := hsz
    rw [qd2, Bool.and_eq_true] at hs2
    refine ⟨?_, hsz, by simp only [Tm.size, Tm.sizeL]; omega, hko _ (by simp [Tm.ks])⟩
    rw [qd2, hs2.2, Bool.and_true]
   ·cases e
  | _ => simp only [Tm.k_mk] at hk; omega
 ·unfold qem at e; rw [if_neg hk] at e; cases e
theorem qpP {x : Sc} {t r : Tm} (h : Nd x t) (e : qpE t = some r) : Good x t r := by
 by_cases hk : t.k = 8
 ·have hsz := h.gd.sz (by omega) (by omega)
  have hok := h.ok
  have hko := hok.kids
  have hf := qbY hok
  have hsc := h.sc
  cases h.sh with
  | ite c a b =>
   have e : (if c.k = 8 then (match c.ks with | [p, q, r] => if qck q 0 2 && qck r 1 2 then some (.ite p b a) else none | _ => none) else none) = some r := e
   have hs2 := hsz
   rw [qch, Bool.and_eq_true, Bool.and_eq_true, is2_iff] at hs2
   have oc := hko c (by simp [Tm.ks])
   split at e
   ·rename_i hk
    cases qdk hs2.2 with
    | ite p q r' =>
     have e : (if qck q 0 2 && qck r' 1 2 then some (.ite p b a) else none) = some r := e
     split at e
     ·simp only [Option.some.injEq] at e
      subst e
      have hc := hs2.2
      rw [qch, Bool.and_eq_true] at hc
      refine ⟨?_, hsz, ?_, ok3_of (by decide) z64 z64 z64 (oc.kids p (by simp [Tm.ks])) (hko b (by simp [Tm.ks])) (hko a (by simp [Tm.ks]))⟩
      ·have hA : szF x a = ((szF x a).1, true) := by rw [← hs2.1.1]
       have hB := hs2.1.2
       rw [qch x (.ite p q r') a b, qch x p b a, hs2.2, hc.2, hB, hA]
      ·simp only [Tm.size, Tm.sizeL]; omega
     ·cases e
    | _ => simp only [Tm.k_mk] at hk; omega
   ·cases e
  | _ => simp only [Tm.k_mk] at hk; omega
 ·unfold qpE at e; rw [if_neg hk] at e; cases e
theorem qoy {x : Sc} {t r : Tm} (h : Nd x t) (e : qio t = some r) : Good x t r := by
 by_cases hk : t.k = 7
 ·have hsz := h.gd.sz (by omega) (by omega)
  have hok := h.ok
  have hko := hok.kids
  have hf := qbY hok
  have hsc := h.sc
  cases h.sh with
  | seq a b =>
   have e : (if a.k = 7 then (match a.ks with | [p, q] => some (.seq p (.seq q b)) | _ => none) else none) = some r := e
   have hs2 := hsz
   rw [qbO, Bool.and_eq_true, is2_iff] at hs2
   have oa := hko a (by simp [Tm.ks])
   split at e
   ·rename_i hk
    cases qdk (x := x) (t := a) (by rw [hs2.2]) with
    | seq p q =>
     have e : some (Tm.seq p (.seq q b)) = some r := e
     simp only [Option.some.injEq] at e
     subst e
     have hc := hs2.2
     rw [qbO] at hc
     simp only [Prod.mk.injEq, Bool.and_eq_true] at hc
     refine ⟨?_, hsz, ?_, ok2_of (by decide) z64 z64 z64 (oa.kids p (by simp [Tm.ks])) (ok2_of (by decide) z64 z64 z64 (oa.kids q (by simp [Tm.ks])) (hko b (by simp [Tm.ks])))⟩
     ·have hp : szF x p = (1, true) := is2_iff.1 (by simp only [is2, Bool.and_eq_true]; exact hc.2.2)
      rw [qbO x (.seq p q) b, hs2.2, qbO x p, qbO x q b, hp]
      simp only [is2, hc.1, hc.2.1, decide_true, Bool.and_true]
     ·simp only [Tm.size, Tm.sizeL]; omega
    | _ => simp only [Tm.k_mk] at hk; omega
   ·cases e
  | _ => simp only [Tm.k_mk] at hk; omega
 ·unfold qio at e; rw [if_neg hk] at e; cases e
theorem qmC {x : Sc} {t r : Tm} (h : Nd x t) (e : qeH x t = some r) : Good x t r := by
 by_cases hk : t.k = 7
 ·have hsz := h.gd.sz (by omega) (by omega)
  have hok := h.ok
  have hko := hok.kids
  have hf := qbY hok
  have hsc := h.sc
  cases h.sh with
  | seq p q =>
   have e : (if p.k = 4 then (match p.ks with | [u] => if decide (q.k = 3) && (decide (p.i = q.i) && (decide (x.top < p.i) && qaN u)) then some (.seq p u) else none | _ => none) else none) = some r := e
   have hs2 := hsz
   rw [qbO, Bool.and_eq_true, is2_iff] at hs2
   have op := hko p (by simp [Tm.ks])
   split at e
   ·rename_i hk
    cases qdk (x := x) (t := p) (by rw [hs2.2]) with
    | put i u =>
     have e : (if decide (q.k = 3) && (decide (i = q.i) && (decide (x.top < i) && qaN u)) then some (.seq (.put i u) u) else none) = some r := e
     split at e
     ·rename_i hu
      simp only [Bool.and_eq_true, decide_eq_true_eq] at hu
      simp only [Option.some.injEq] at e
      subst e
      have hk := hu.1
      cases qdk hs2.1 with
      | get j =>
       have hij : i = j := hu.2.1
       subst hij
       have hc := hs2.2
       rw [qeD] at hc
       simp only [Prod.mk.injEq, Bool.and_eq_true, true_and] at hc
       have hcu : szF x u = (((x.get i).getD .none).ty.res.n, true) := is2_iff.1 (by simp only [is2, Bool.and_eq_true]; exact hc.2)
       refine ⟨?_, hsz, ?_, ok2_of (by decide) z64 z64 z64 op (op.kids u (by simp [Tm.ks]))⟩
       ·rw [qbO, qbO, hs2.2, qhs, hcu, hc.1]
       ·simp only [Tm.size, Tm.sizeL]
        obtain ⟨n, m, rfl⟩ := qe0 (qdk (x := x) (t := u) (by rw [hcu])) hu.2.2.2
        simp only [Tm.size, Tm.sizeL]; omega
      | _ => simp only [Tm.k_mk] at hk; omega
     ·cases e
    | _ => simp only [Tm.k_mk] at hk; omega
   ·cases e
  | _ => simp only [Tm.k_mk] at hk; omega
 ·unfold qeH at e; rw [if_neg hk] at e; cases e
end Go.AI.Tryz
namespace Go.AI.Tryz
abbrev up (x : Sc) : Sc := { x with size := x.size + 1 }
theorem qiv (g : Tm → Int → Tm) (lab : Bool) (l : Int) : ∀ (ks : List Tm) (j : Nat), (Tm.chgK g lab l j ks).length = ks.length
 | [], _ => by simp only [Tm.chgK]
 | u :: r, j => by simp only [Tm.chgK, List.length_cons, qiv g lab l r]
theorem qlW (g : Tm → Int → Tm) (lab : Bool) (l : Int) : ∀ (ks : List Tm) (j : Nat) (w : Tm), w ∈ Tm.chgK g lab l j ks → ∃ u ∈ ks, ∃ l', w = Tm.chg g u l' ∧ (l' = l ∨ l' = l + 1)
 | [], _, w, h => by simp only [Tm.chgK] at h; cases h
 | u :: r, j, w, h => by
  simp only [Tm.chgK] at h
  rcases List.mem_cons.1 h with rfl | h
  ·exact ⟨u, List.mem_cons_self .., _, rfl, by split <;> simp⟩
  ·obtain ⟨v, hv, l', e⟩ := qlW g lab l r (j + 1) w h
   exact ⟨v, List.mem_cons_of_mem _ hv, l', e⟩
theorem qkU {is : Tm → Int → Bool} {lab : Bool} {l : Int} : ∀ {ks : List Tm} {j i : Nat} {w : Tm}, Tm.anyK is lab l j ks = false → ks[i]? = some w → Tm.any is w (if lab && decide (j + i = 0) then l + 1 else l) = false
 | [], _, i, w, _, h => by simp at h
 | u :: r, j, 0, w, h, hi => by
  simp only [Tm.anyK, Bool.or_eq_false_iff] at h
  simp only [List.getElem?_cons_zero, Option.some.injEq] at hi
  subst hi
  exact h.1
 | u :: r, j, i + 1, w, h, hi => by
  simp only [Tm.anyK, Bool.or_eq_false_iff] at h
  have := qkU h.2 (show r[i]? = some w by simpa using hi)
  rw [show j + (i + 1) = j + 1 + i by omega]
  exact this
theorem LkK.chg {g : Tm → Int → Tm} {lab : Bool} {l : Int} {sx sy : Nat → Sc} : ∀ (ks : List Tm) (j : Nat), (∀ i w, ks[i]? = some w → Lk (sx (j + i)) w (sy (j + i)) (Tm.chg g w (if lab && decide (j + i = 0) then l + 1 else l))) → LkK sx sy j ks (Tm.chgK g lab l j ks)
 | [], _, _ => by simp only [Tm.chgK]; exact trivial
 | u :: r, j, h => by
  simp only [Tm.chgK]
  refine ⟨h 0 u rfl, LkK.chg r (j + 1) fun i w hi => ?_⟩
  have := h (i + 1) w (by simpa using hi)
  rw [show j + 1 + i = j + (i + 1) by omega]
  exact this
theorem qlX (g : Tm → Int → Tm) : ∀ (d : Nat) (t : Tm) (l : Int), t.size ≤ d → (Tm.chg g t l).size = t.size
 | 0, t, _, h => by have := Tm.size_pos t; omega
 | d + 1, t, l, h => by
  have hk : ∀ (ks : List Tm) (lab : Bool) (j : Nat), (∀ w ∈ ks, w.size ≤ d) → Tm.sizeL (Tm.chgK g lab l j ks) = Tm.sizeL ks := by
   intro ks
   induction ks with
   | nil => intro lab j _; simp only [Tm.chgK]
   | cons u r ih =>
    intro lab j hs
    simp only [Tm.chgK, Tm.sizeL]
    rw [qlX g d u _ (hs u (List.mem_cons_self ..)), ih lab (j + 1) fun w hw => hs w (List.mem_cons_of_mem _ hw)]
  have h1 := Tm.size_ks t
  have h2 := Tm.size_ks (Tm.chg g t l)
  have h3 : (Tm.chg g t l).ks = Tm.chgK g (decide (t.k = 11)) l 0 t.ks := by rw [Tm.chg_eq]; rfl
  rw [h3, hk t.ks _ 0 fun w hw => by have := qa1 hw; omega] at h2
  omega
theorem qqt : ∀ (d : Nat) (t : Tm) (l : Int), t.size ≤ d → 0 ≤ l → t.Ok → (Tm.chg qcU t l).Ok
 | 0, t, _, h, _, _ => by have := Tm.size_pos t; omega
 | d + 1, t, l, h, hl, hok => by
  have hf := qbY hok
  rw [Tm.chg_eq]
  have hn : -9223372036854775808 ≤ (qcU t l).n ∧ (qcU t l).n ≤ 9223372036854775807 := by
   unfold qcU
   split
   ·simp only [Tm.n_mk]; omega
   ·exact hf.2.1
  have hm : (qcU t l).m = t.m := by unfold qcU; split <;> rfl
  have hi : (qcU t l).i = t.i := by unfold qcU; split <;> rfl
  refine .mk ?_ hn ?_ ?_ ?_ ?_
  ·rw [(qgv t l).2]; exact hf.1
  ·rw [hm]; exact hf.2.2.1
  ·rw [hi]; exact hf.2.2.2
  ·rw [qiv]; exact hok.len
  ·intro w hw
   obtain ⟨u, hu, l', rfl, hl'⟩ := qlW _ _ _ _ _ _ hw
   exact qqt d u l' (by have := qa1 hu; omega) (by omega) (hok.kids u hu)
theorem qtl {x : Sc} {t t' : Tm} (hk : t'.k = t.k) (hn : t.k ≠ 12 → t'.n = t.n) (h17 : t.k = 17 → (szF (up x) (t.ks.headD .z)).1 = (szF x (t'.ks.headD .z)).1) (j : Nat) : (up x).kid t j = up (x.kid t' j) ∧ (x.kid t' j).size = if decide (t.k = 11) && decide (j = 0) then x.size + 1 else x.size := by
 unfold Sc.kid
 rw [hk]
 by_cases h10 : t.k = 10
 ·have h11 : ¬ t.k = 11 := by omega
  rw [if_pos h10, if_pos h10, hn (by omega)]
  exact ⟨rfl, by simp only [h11, decide_false, Bool.false_and, Bool.false_eq_true, if_false]; rfl⟩
 ·rw [if_neg h10, if_neg h10]
  by_cases h17' : t.k = 17 ∧ j = 1
  ·have h11 : ¬ t.k = 11 := by omega
   rw [if_pos h17', if_pos h17', h17 h17'.1]
   exact ⟨rfl, by simp only [h11, decide_false, Bool.false_and, Bool.false_eq_true, if_false]; rfl⟩
  ·rw [if_neg h17', if_neg h17']
   by_cases h11 : t.k = 11 ∧ j = 0
   ·rw [if_pos h11, if_pos h11]
    exact ⟨rfl, by simp only [h11.1, h11.2, decide_true, Bool.and_self, if_true]⟩
   ·rw [if_neg h11, if_neg h11]
    refine ⟨rfl, ?_⟩
    rw [if_neg (by simpa using h11)]
theorem qqu : ∀ (d : Nat) (t : Tm) (x : Sc) (l : Int), t.size ≤ d → Nd (up x) t → t.any qfl l = false → 0 ≤ l → l ≤ x.size → Lk (up x) t x (Tm.chg qcU t l)
 | 0, t, _, _, h, _, _, _, _ => by have := Tm.size_pos t; omega
 | d + 1, t, x, l, hd, hn, ha, hl, hlx => by
  rw [Tm.any_eq, Bool.or_eq_false_iff] at ha
  have hk' : (Tm.chg qcU t l).k = t.k := by rw [Tm.chg_eq]; exact (qgv t l).2
  have hks' : (Tm.chg qcU t l).ks = Tm.chgK qcU (decide (t.k = 11)) l 0 t.ks := by rw [Tm.chg_eq]; rfl
  have hn' : t.k ≠ 12 → (Tm.chg qcU t l).n = t.n := fun h => by
   rw [Tm.chg_eq]
   show (qcU t l).n = _
   unfold qcU
   rw [if_neg (fun h' => h h'.1)]
  have hm' : (Tm.chg qcU t l).m = t.m := by rw [Tm.chg_eq]; show (qcU t l).m = _; unfold qcU; split <;> rfl
  have hi' : (Tm.chg qcU t l).i = t.i := by rw [Tm.chg_eq]; show (qcU t l).i = _; unfold qcU; split <;> rfl
  have IH : ∀ i w, t.ks[i]? = some w → ∀ z, (up x).kid t i = up z → z.size = (if decide (t.k = 11) && decide (i = 0) then x.size + 1 else x.size) → Lk ((up x).kid t i) w z (Tm.chg qcU w (if decide (t.k = 11) && decide (i = 0) then l + 1 else l)) := by
   intro i w hi z hz hzs
   have h1 := hn.kid hi
   have h2 := qkU ha.2 hi
   rw [Nat.zero_add] at h2
   rw [hz] at h1 ⊢
   refine qqu d w z _ (by have := qa1 (List.mem_of_getElem? hi); omega) h1 h2 ?_ ?_
   ·split <;> omega
   ·rw [hzs]; split <;> omega
  have h17 : t.k = 17 → (szF (up x) (t.ks.headD .z)).1 = (szF x ((Tm.chg qcU t l).ks.headD .z)).1 := fun h17 => by
   rw [hks']
   have h11 : ¬ t.k = 11 := by omega
   cases hks : t.ks with
   | nil =>
    have := hn.sh
    cases this <;> simp [Tm.k, Tm.ks] at h17 hks
   | cons u r =>
    have := IH 0 u (by rw [hks]; rfl) x (qgB h17) (by simp only [h11, decide_false, Bool.false_and, Bool.false_eq_true, if_false])
    rw [qgB h17] at this
    simp only [h11, decide_false, Bool.false_and, Bool.false_eq_true, if_false] at this
    simp only [Tm.chgK, List.headD_cons, h11, decide_false, Bool.false_and, Bool.false_eq_true, if_false]
    rw [this.1]
  have hku := fun j => qtl (x := x) hk' hn' h17 j
  refine Lk.node hn.sh ?_ hk' hm' hn' ?_ ?_ ?_ ?_
  ·refine qn1 ?_
   have h1 := qcy hn.sh
   by_cases h12 : t.k = 12
   ·cases hn.sh with
    | jmp n =>
     rw [Tm.chg_eq]
     have : (qcU (.jmp n) l).k = 12 ∧ (qcU (.jmp n) l).m = 0 ∧ (qcU (.jmp n) l).i = 0 := by unfold qcU; split <;> exact ⟨rfl, rfl, rfl⟩
     rw [this.1, this.2.1, this.2.2]
     exact qcy (.jmp _)
    | _ => simp only [Tm.k_mk] at h12; omega
   ·have e : Tm.chg qcU t l = t.with (Tm.chgK qcU (decide (t.k = 11)) l 0 t.ks) := by
     rw [Tm.chg_eq]
     unfold qcU
     rw [if_neg (fun h' => h12 h'.1)]
     rfl
    rw [e]
    exact qcy (qkR hn.sh (qiv ..))
  ·intro h12
   have hle : qfl t l = false := ha.1
   simp only [qfl, h12, decide_true, Bool.true_and, decide_eq_false_iff_not] at hle
   rw [Tm.chg_eq]
   show qbr t.n (x.size + 1) = qbr (qcU t l).n x.size
   unfold qcU
   rw [Bool.eq_iff_iff, isBelow_iff, isBelow_iff]
   split
   ·rename_i h; simp only [Tm.n_mk]; omega
   ·rename_i h
    have : ¬ l < t.n := fun h' => h ⟨h12, h'⟩
    omega
  ·rw [hi']; rfl
  ·intro _; rw [hi']
  ·rw [hks']
   refine LkK.chg t.ks 0 fun i w hi => ?_
   rw [Nat.zero_add]
   exact IH i w hi _ (hku i).1 (hku i).2
theorem qmD {x : Sc} {t r : Tm} (h : Nd x t) (e : qgx t = some r) : Good x t r := by
 by_cases hk : t.k = 11
 ·have hsz := h.gd.sz (by omega) (by omega)
  have hok := h.ok
  have hko := hok.kids
  have hB := h.b
  cases hs : h.sh with
  | lbl u w =>
   have e : (if !qjL u then some (Tm.unl u) else none) = some r := e
   split at e
   ·rename_i hu
    simp only [Option.some.injEq] at e
    subst e
    have hs2 := hsz
    rw [qdZ, Bool.and_eq_true, is2_iff] at hs2
    have hnu : Nd (up x) u := h.kid (t := .lbl u w) (u := u) (j := 0) rfl
    have htr := qqu u.size u x 0 (Nat.le_refl _) hnu (by simpa [qjL] using hu) (by decide) hB.2.1
    refine ⟨?_, hsz, ?_, qqt u.size u 0 (Nat.le_refl _) (by decide) (hko u (by simp [Tm.ks]))⟩
    ·show _ = szF x (Tm.chg qcU u 0)
     rw [qdZ, hs2.1, hs2.2, ← htr.1]
     simp only [is2, decide_true, Bool.and_true]
     rw [← hs2.1]
    ·show (Tm.chg qcU u 0).size ≤ _
     rw [qlX qcU u.size u 0 (Nat.le_refl _)]
     simp only [Tm.size, Tm.sizeL]; omega
   ·cases e
  | _ => simp only [Tm.k_mk] at hk; omega
 ·unfold qgx at e; rw [if_neg hk] at e; cases e
end Go.AI.Tryz
namespace Go.AI.Tryz
structure Rm (N id : Int) (X Y : Sc) : Prop where
 ex : ∃ A B, X.ids = A ++ (⟨⟨[], ⟨true, N⟩⟩, false⟩ : Se) :: B ∧ Y.ids = A ++ B ∧ id = Int.ofNat A.length + 1
 top : Y.top = X.top
 size : Y.size = X.size
 lt : X.top < id
abbrev sh1 (id i : Int) : Int := if id < i then i - 1 else i
theorem Rm.pos {N id : Int} {X Y : Sc} (h : Rm N id X Y) : 1 ≤ id := by
 obtain ⟨A, B, _, _, e⟩ := h.ex
 have : (0 : Int) ≤ Int.ofNat A.length := Int.natCast_nonneg _
 omega
theorem Rm.get {N id : Int} {X Y : Sc} (h : Rm N id X Y) {i : Int} (hi : i ≠ id) : X.get i = Y.get (sh1 id i) := by
 obtain ⟨A, B, hX, hY, he⟩ := h.ex
 have hp := h.pos
 simp only [Int.ofNat_eq_natCast] at he
 unfold Sc.get sh1
 by_cases h1 : i < 1
 ·rw [if_pos h1, if_neg (show ¬ id < i by omega), if_pos h1]
 ·by_cases h2 : id < i
  ·rw [if_neg h1, if_pos h2, if_neg (by omega), hX, hY]
   have e1 : (i - 1).toNat = A.length + ((i - 1 - 1).toNat - A.length) + 1 := by omega
   rw [List.getElem?_append_right (by omega), List.getElem?_append_right (by omega)]
   rw [show (i - 1).toNat - A.length = ((i - 1 - 1).toNat - A.length) + 1 by omega, List.getElem?_cons_succ]
  ·rw [if_neg h1, if_neg h2, if_neg h1, hX, hY]
   rw [List.getElem?_append_left (by omega), List.getElem?_append_left (by omega)]
theorem Rm.at {N id : Int} {X Y : Sc} (h : Rm N id X Y) : X.get id = some ⟨⟨[], ⟨true, N⟩⟩, false⟩ := by
 obtain ⟨A, B, hX, hY, he⟩ := h.ex
 simp only [Int.ofNat_eq_natCast] at he
 unfold Sc.get
 rw [if_neg (by omega), hX, show (id - 1).toNat = A.length by omega]
 rw [List.getElem?_append_right (Nat.le_refl _), Nat.sub_self]; rfl
theorem Rm.with {N id : Int} {X Y : Sc} (h : Rm N id X Y) (y : Se) : Rm N id (X.with y) (Y.with y) := by
 obtain ⟨A, B, hX, hY, he⟩ := h.ex
 exact ⟨⟨A, B ++ [y], by simp only [Sc.with, hX, List.append_assoc, List.cons_append], by simp only [Sc.with, hY, List.append_assoc], he⟩, h.top, h.size, h.lt⟩
theorem Rm.up {N id : Int} {X Y : Sc} (h : Rm N id X Y) : Rm N id (up X) (up Y) := ⟨h.ex, h.top, by show Y.size + 1 = X.size + 1; rw [h.size], h.lt⟩
theorem Rm.kid {N id : Int} {X Y : Sc} (h : Rm N id X Y) {t t' : Tm} (hk : t'.k = t.k) (hn : t'.n = t.n) (h17 : t.k = 17 → (szF X (t.ks.headD .z)).1 = (szF Y (t'.ks.headD .z)).1) (j : Nat) : Rm N id (X.kid t j) (Y.kid t' j) := by
 unfold Sc.kid
 rw [hk, hn]
 by_cases h10 : t.k = 10
 ·rw [if_pos h10, if_pos h10]; exact h.with _
 ·rw [if_neg h10, if_neg h10]
  by_cases h17' : t.k = 17 ∧ j = 1
  ·rw [if_pos h17', if_pos h17', h17 h17'.1]; exact h.with _
  ·rw [if_neg h17', if_neg h17']
   by_cases h11 : t.k = 11 ∧ j = 0
   ·rw [if_pos h11, if_pos h11]; exact h.up
   ·rw [if_neg h11, if_neg h11]; exact h
theorem quI {t : Tm} (h : Sh t) {i : Int} {ks : List Tm} (hi : t.i = 0 → i = 0) (hl : ks.length = t.ks.length) : Sh (.mk t.k t.n t.m i ks) := by
 have h1 := qcy h
 refine qn1 ?_
 obtain ⟨k, n, m, i0, l⟩ := t
 simp only [Tm.ks, Tm.i] at hl hi
 have h1 : (match qcg formL k with | none => false | some f => (((f.n || decide (n = 0)) && (f.m || decide (m = 0))) && (f.i || decide (i0 = 0))) && (decide (f.k < 0) || decide (f.k = Int.ofNat l.length))) = true := h1
 show (match qcg formL k with | none => false | some f => (((f.n || decide (n = 0)) && (f.m || decide (m = 0))) && (f.i || decide (i = 0))) && (decide (f.k < 0) || decide (f.k = Int.ofNat ks.length))) = true
 cases hf : qcg formL k with
 | none => rw [hf] at h1; cases h1
 | some f =>
  rw [hf] at h1
  simp only [Bool.and_eq_true, Bool.or_eq_true, decide_eq_true_eq, hl] at h1 ⊢
  refine ⟨⟨h1.1.1, ?_⟩, h1.2⟩
  rcases h1.1.2 with h | h
  ·exact .inl h
  ·exact .inr (hi h)
theorem qoz (id : Int) (val : Tm) : ∀ ks : List Tm, (woL id val ks).length = ks.length
 | [] => rfl
 | u :: r => by simp only [woL, List.length_cons, qoz id val r]
theorem qoA (id : Int) (val : Tm) : ∀ (ks : List Tm) (w : Tm), w ∈ woL id val ks → ∃ u ∈ ks, w = woF id val u
 | [], w, h => by simp only [woL] at h; cases h
 | u :: r, w, h => by
  simp only [woL] at h
  rcases List.mem_cons.1 h with rfl | h
  ·exact ⟨u, List.mem_cons_self .., rfl⟩
  ·obtain ⟨v, hv, e⟩ := qoA id val r w h
   exact ⟨v, List.mem_cons_of_mem _ hv, e⟩
theorem LkK.wo {id : Int} {val : Tm} {sx sy : Nat → Sc} : ∀ (ks : List Tm) (j : Nat), (∀ i w, ks[i]? = some w → Lk (sx (j + i)) w (sy (j + i)) (woF id val w)) → LkK sx sy j ks (woL id val ks)
 | [], _, _ => by simp only [woL]; exact trivial
 | u :: r, j, h => by
  simp only [woL]
  refine ⟨h 0 u rfl, LkK.wo r (j + 1) fun i w hi => ?_⟩
  have := h (i + 1) w (by simpa using hi)
  rw [show j + 1 + i = j + (i + 1) by omega]
  exact this
structure WoOk (X Y : Sc) (t r : Tm) : Prop where
 tr : Lk X t Y r
 size : r.size ≤ t.size
 ok : r.Ok
theorem qtm {N id : Int} {val : Tm} (hv : ∀ Y, szF Y val = (N, true)) (hvs : val.size = 1) (hvo : val.Ok) : ∀ (d : Nat) (t : Tm) (X Y : Sc) (l : Int), t.size ≤ d → Rm N id X Y → Nd X t → t.any (isH id) l = false → WoOk X Y t (woF id val t)
 | 0, t, _, _, _, h, _, _, _ => by have := Tm.size_pos t; omega
 | d + 1, t, X, Y, l, hd, hr, hn, ha => by
  rw [Tm.any_eq, Bool.or_eq_false_iff] at ha
  have hp := hr.pos
  have hsz := hn.gd.sz
  have IH : ∀ i w, t.ks[i]? = some w → ∀ Z, Rm N id (X.kid t i) Z → WoOk (X.kid t i) Z w (woF id val w) := fun i w hi Z hz =>
   qtm hv hvs hvo d w _ Z _ (by have := qa1 (List.mem_of_getElem? hi); omega) hz (hn.kid hi) (qkU ha.2 hi)
  have hf := qbY hn.ok
  rw [qs5]
  by_cases hi : t.i = id
  ·rw [if_pos hi]
   have hko := hn.ok.kids
   cases hs : hn.sh with
   | get i =>
    have hi : i = id := hi
    subst hi
    rw [if_pos (show (Tm.get i).k = 3 from rfl)]
    have h1 : szF X (.get i) = (N, true) := by rw [qhs, hr.at]; rfl
    exact ⟨Lk.of_ok (by rw [h1, hv]) (by rw [h1]), by rw [hvs]; exact Tm.size_pos _, hvo⟩
   | put i u =>
    have hi : i = id := hi
    subst hi
    have hz := hsz (by simp [Tm.k]) (by simp [Tm.k])
    obtain ⟨h1, h2, h3⟩ := IH 0 u rfl Y hr
    have h1 : szF X u = szF Y (woF i val u) := h1.1
    have hz2 := hz
    rw [qeD, hr.at, Bool.and_eq_true] at hz2
    have hu : szF X u = (N, true) := is2_iff.1 hz2.2
    rw [if_neg (by simp [Tm.k]), if_pos (show (Tm.put i u).k = 4 from rfl)]
    show WoOk X Y (.put i u) (.az 1 (woF i val u))
    refine ⟨Lk.of_ok ?_ hz, by simp only [Tm.size, Tm.sizeL]; omega, ok1_of (by decide) o64 z64 z64 h3⟩
    rw [qeD, hr.at, qeF, ← h1, hu]
    simp only [is2, Option.getD_some, decide_true, Bool.and_true, Bool.true_and, Option.any_some]
    rfl
   | ntc n i u =>
    have hi : i = id := hi
    subst hi
    have hz := hsz (by simp [Tm.k]) (by simp [Tm.k])
    obtain ⟨h1, h2, h3⟩ := IH 0 u rfl Y hr
    have h1 : szF X u = szF Y (woF i val u) := h1.1
    have hz2 := hz
    rw [qd2, Bool.and_eq_true] at hz2
    rw [if_neg (by simp [Tm.k]), if_neg (by simp [Tm.k]), if_pos (show (Tm.ntc n i u).k = 18 from rfl)]
    show WoOk X Y (.ntc n i u) (woF i val u)
    refine ⟨Lk.of_ok ?_ hz, by simp only [Tm.size, Tm.sizeL]; omega, h3⟩
    rw [qd2, ← h1, hz2.2, Bool.and_true]
   | use i ks =>
    have hi : i = id := hi
    subst hi
    have hz := hsz (by simp [Tm.k]) (by simp [Tm.k])
    rw [qgs, hr.at] at hz
    simp only [Option.getD_some, Bool.not_true, Bool.false_and, Bool.and_false] at hz
    cases hz
   | val i =>
    have hi : i = id := hi
    subst hi
    have hz := hsz (by simp [Tm.k]) (by simp [Tm.k])
    rw [qht, hr.at] at hz
    simp only [Option.getD_some, Bool.and_false] at hz
    cases hz
   | cel i =>
    have hi : i = id := hi
    subst hi
    have := ha.1
    simp only [isH, Tm.i_mk, Tm.k_mk, decide_true, Bool.and_self] at this
    cases this
   | _ => exfalso; simp only [Tm.i_mk] at hi; omega
  ·rw [if_neg hi]
   have h17 : t.k = 17 → (szF X (t.ks.headD .z)).1 = (szF Y ((woL id val t.ks).headD .z)).1 := fun h17 => by
    cases hks : t.ks with
    | nil =>
     have := hn.sh
     cases this <;> simp [Tm.k, Tm.ks] at h17 hks
    | cons u r =>
     have := (IH 0 u (by rw [hks]; rfl) Y (by rw [qgB h17]; exact hr)).tr
     rw [qgB h17] at this
     simp only [woL, List.headD_cons]
     rw [this.1]
   have hkid : ∀ j, Rm N id (X.kid t j) (Y.kid (.mk t.k t.n t.m (sh1 id t.i) (woL id val t.ks)) j) := fun j => hr.kid (t := t) (t' := .mk t.k t.n t.m (sh1 id t.i) (woL id val t.ks)) rfl rfl h17 j
   have hl : (woL id val t.ks).length = t.ks.length := qoz ..
   refine ⟨?_, ?_, ?_⟩
   ·refine Lk.node hn.sh (quI hn.sh (fun h0 => ?_) hl) rfl rfl (fun _ => rfl) (fun h12 => ?_) (hr.get hi) (fun _ => ?_) (LkK.wo t.ks 0 fun i w hi => ?_)
    ·rw [h0, if_neg (by omega)]
    ·rw [hr.size]; rfl
    ·have := hr.lt
     show decide (X.top < t.i) = decide (Y.top < sh1 id t.i)
     rw [hr.top, decide_eq_decide]
     unfold sh1
     split <;> omega
    ·rw [Nat.zero_add]
     exact (IH i w hi _ (hkid i)).tr
   ·have hK : ∀ (ks : List Tm), (∀ w ∈ ks, (woF id val w).size ≤ w.size) → Tm.sizeL (woL id val ks) ≤ Tm.sizeL ks := by
     intro ks
     induction ks with
     | nil => intro _; exact Nat.le_refl _
     | cons u r ih =>
      intro h
      have h1 := h u (List.mem_cons_self ..)
      have h2 := ih fun w hw => h w (List.mem_cons_of_mem _ hw)
      simp only [woL, Tm.sizeL]; omega
    have h1 := Tm.size_ks t
    have h2 := Tm.size_ks (.mk t.k t.n t.m (if id < t.i then t.i - 1 else t.i) (woL id val t.ks))
    have h3 := hK t.ks fun w hw => by
     obtain ⟨i, hi⟩ := List.getElem?_of_mem hw
     exact (IH i w hi _ (hkid i)).size
    simp only [Tm.ks_mk] at h2
    omega
   ·refine .mk hf.1 hf.2.1 hf.2.2.1 ?_ (by rw [hl]; exact hn.ok.len) fun w hw => ?_
    ·split <;> omega
    ·obtain ⟨u, hu, rfl⟩ := qoA _ _ _ _ hw
     obtain ⟨i, hi⟩ := List.getElem?_of_mem hu
     exact (IH i u hi _ (hkid i)).ok
theorem qgC {x : Sc} {t r : Tm} {ok : Nm → Bool} (hk : ∀ y, ok y = true → y.h = false) (ht : x.top ≤ Int.ofNat x.ids.length) (h : Nd x t) (e : clR x ok (ini t) t = some r) : Good x t r := by
 by_cases hk10 : t.k = 10
 ·have hsz := h.gd.sz (by omega) (by omega)
  have hok := h.ok
  have hf := qbY hok
  have hnu := fun u hu => h.kid (u := u) (j := 0) hu
  cases hs : h.sh with
  | new n m u =>
   have e : (if ok (qfm (cid x) u) then some (woF (cid x) (ini (.new n m u)) u) else none) = some r := e
   split at e
   ·rename_i hu
    simp only [Option.some.injEq] at e
    subst e
    have hs2 := hsz
    rw [qeG, Bool.and_eq_true, Bool.and_eq_true, isSize_iff, isBelow_iff] at hs2
    have hv : ∀ Y, szF Y (ini (.new n m u)) = (n, true) := fun Y => by
     show szF Y (.num m n) = _
     rw [qdq, isSize_iff.2 hs2.2.1, isBelow_iff.2 hs2.2.2]; rfl
    have hR : Rm n (cid x) (x.with ⟨⟨[], ⟨true, n⟩⟩, false⟩) x := ⟨⟨x.ids, [], rfl, (List.append_nil _).symm, rfl⟩, rfl, rfl, by show x.top < Int.ofNat x.ids.length + 1; omega⟩
    obtain ⟨h1, h2, h3⟩ := qtm hv rfl (qhx (show 0 ≤ m ∧ m ≤ 64 by omega) (show 0 ≤ n ∧ n ≤ 64 by omega)) u.size u _ x 0 (Nat.le_refl _) hR (hnu u rfl) (hk _ hu)
    refine ⟨?_, hsz, by simp only [Tm.size, Tm.sizeL]; omega, h3⟩
    rw [qeG, ← h1.1, hs2.1, isSize_iff.2 hs2.2.1, isBelow_iff.2 hs2.2.2]
    exact Prod.ext rfl hs2.1.symm
   ·cases e
  | _ => simp only [Tm.k_mk] at hk10; omega
 ·unfold clR at e; rw [if_neg hk10] at e; cases e
theorem keep {x : Sc} {t r : Tm} {i : Nat} (h : Nd x t) (ht : x.top ≤ Int.ofNat x.ids.length) (hi : i < 22) (e : qbC i x t = some r) : Good x t r := by
 match i, hi with
 | 0, _ => exact qrM h e
 | 1, _ => exact qrN h e
 | 2, _ => exact qor h e
 | 3, _ => exact qjR h e
 | 4, _ => exact qos h e
 | 5, _ => exact qrO h e
 | 6, _ => exact qot h e
 | 7, _ => exact qpP h e
 | 8, _ => exact qou h e
 | 9, _ => exact qov h e
 | 10, _ => exact qoy h e
 | 11, _ => exact qow h e
 | 12, _ => exact qmA h e
 | 13, _ => exact qgC (fun y hy => by simp only [okU, Bool.and_eq_true, Bool.not_eq_true'] at hy; exact hy.2.2) ht h e
 | 14, _ => exact qgC (fun y hy => by simp only [qrA, Bool.and_eq_true, Bool.not_eq_true'] at hy; exact hy.2.2) ht h e
 | 15, _ => exact qgC (fun y hy => by simp only [qrB, Bool.and_eq_true, Bool.not_eq_true'] at hy; exact hy.2.2) ht h e
 | 16, _ => exact qmC h e
 | 17, _ => exact qmD h e
 | 18, _ => exact qox h e
 | 19, _ => exact qkT h e
 | 20, _ => exact qkS h e
 | 21, _ => exact qmB h e
 | _ + 22, h => exact absurd h (by omega)
end Go.AI.Tryz
namespace Go.AI
def qhy (u : Tm) (a : Int) (t : Tm) : Tm := if 0 ≤ a ∧ a < t.size then Tm.put1 u a.toNat t else t
mutual
theorem qjS (u : Tm) : ∀ (t : Tm) (j : Nat), (Tm.put1 u j t).size ≤ t.size + u.size
 | t, 0 => by cases t; rw [Tm.put1]; omega
 | .mk k n m i ks, j + 1 => by
  have := qjT u ks j
  simp only [Tm.put1, Tm.size]; omega
theorem qjT (u : Tm) : ∀ (ks : List Tm) (j : Nat), Tm.sizeL (Tm.putL u j ks) ≤ Tm.sizeL ks + u.size
 | [], j => by cases j <;> simp only [Tm.putL] <;> omega
 | k :: r, j => by
  have h1 := qjS u k j
  have h2 := qjT u r (j - k.size)
  simp only [Tm.putL]
  split <;> simp only [Tm.sizeL] <;> omega
end
theorem qoB (u : Tm) (a : Int) (t : Tm) : (qhy u a t).size ≤ t.size + u.size := by
 unfold qhy
 split
 ·exact qjS u t _
 ·omega
def qhz : Int × Int × Tm → Tm → Int → (Int × Int × Tm) × (Tm × Bool) := fun c t l => (((qdb c.2.1 c.2.2 c.1 t l).1, c.2), (qdb c.2.1 c.2.2 c.1 t l).2)
theorem qlY (a : Int) (u : Tm) : ∀ (d : Nat) (c : Int) (t : Tm) (l : Int), qcv qhz d (c, a, u) t l = (((qcv (qdb a u) d c t l).1, a, u), (qcv (qdb a u) d c t l).2)
 | 0, c, t, l => rfl
 | d + 1, c, t, l => by
  have hk : ∀ (lab : Bool) (ks : List Tm) (j : Nat) (c : Int), qeL (qcv qhz d) lab l j (c, a, u) ks = (((qeL (qcv (qdb a u) d) lab l j c ks).1, a, u), (qeL (qcv (qdb a u) d) lab l j c ks).2) := by
   intro lab ks
   induction ks with
   | nil => intro j c; rfl
   | cons w r ih =>
    intro j c
    simp only [qeL, qlY a u d, ih]
  simp only [qcv, qhz, hk]
  split <;> rfl
theorem qlZ (a : Int) (ha : a < 0) (u : Tm) : ∀ (d c : Nat) (t : Tm) (l : Int), t.size ≤ d → c + t.size ≤ 1000000000 → qcv (qdb a u) d (.ofNat c) t l = (.ofNat (c + t.size), t)
 | 0, c, t, l, h, _ => by have := Tm.size_pos t; omega
 | d + 1, c, t, l, h, hc => by
  have hk : ∀ (lab : Bool) (ks : List Tm) (j c : Nat), (∀ u ∈ ks, u.size ≤ d) → c + Tm.sizeL ks ≤ 1000000000 → qeL (qcv (qdb a u) d) lab l j (.ofNat c) ks = (.ofNat (c + Tm.sizeL ks), ks) := by
   intro lab ks
   induction ks with
   | nil => intro j c _ _; rfl
   | cons w r ih =>
    intro j c hu hc
    simp only [Tm.sizeL] at hc
    have h1 := qlZ a ha u d c w (if lab && decide (j = 0) then l + 1 else l) (hu w (List.mem_cons_self ..)) (by omega)
    have ih := ih (j + 1) (c + w.size) (fun v hv => hu v (List.mem_cons_of_mem _ hv)) (by omega)
    simp only [qeL, h1, ih, Tm.sizeL]
    rw [show c + w.size + Tm.sizeL r = c + (w.size + Tm.sizeL r) by omega]
  have hsz := Tm.size_ks t
  unfold qcv
  rw [qlR (by omega), if_neg (show ¬ Int.ofNat c = a from fun h => by rw [← h] at ha; simp only [Int.ofNat_eq_natCast] at ha; omega)]
  simp only [if_true]
  rw [hk _ t.ks 0 (c + 1) (fun v hv => by have := Tm.sizeL_mem hv; omega) (by omega), Tm.with_ks, show c + 1 + Tm.sizeL t.ks = c + t.size by omega]
theorem qoC (a : Int) (u t : Tm) (hs : t.size ≤ 100000) : (qcv (qdb a u) t.size 0 t 0).2 = qhy u a t := by
 unfold qhy
 by_cases h0 : 0 ≤ a
 ·obtain ⟨b, rfl⟩ : ∃ b : Nat, a = Int.ofNat b := ⟨a.toNat, by simp only [Int.ofNat_eq_natCast]; omega⟩
  have hp := qlS b u t.size 0 t 0 (Nat.le_refl _) (by omega)
  by_cases hb : b < t.size
  ·rw [PutR.inn (by omega)] at hp
   obtain ⟨c', e, _⟩ := hp
   have e : qcv (qdb (.ofNat b) u) t.size 0 t 0 = _ := e
   rw [e, if_pos (by simp only [Int.ofNat_eq_natCast]; omega)]
   rfl
  ·rw [PutR.out (by omega)] at hp
   have hp : qcv (qdb (.ofNat b) u) t.size 0 t 0 = _ := hp
   rw [hp, if_neg (by simp only [Int.ofNat_eq_natCast]; omega)]
 ·rw [if_neg (by omega)]
  have e : qcv (qdb a u) t.size 0 t 0 = _ := qlZ a (by omega) u t.size 0 t 0 (Nat.le_refl _) (by omega)
  rw [e]
end Go.AI
namespace Go.AI.Tryz
def RP2 (q : Nat × qaM) (c : Int × Int × Tm) (E : qaM) (s : ASt) : Prop := RP c.2.1 c.2.2 q c.1 E s
theorem qtn (d : Nat) : Ev fun n => ∀ q, ByC (RP2 q) qhz (.func 115 [] [.ptr (q.1 + 2) 0, .ptr q.1 0, .ptr (q.1 + 1) 0]) (fun _ => True) n d := by
 refine Ev.succ ((Ev.ge 1).mono fun n hn q c E s t l h1 h2 h3 h4 hr => ?_)
 obtain ⟨c, a, u⟩ := c
 obtain ⟨N, H0⟩ := q
 unfold RP2 RP at hr
 simp only at hr
 rw [qgW CP (by omega), qbG]
 simp only [List.nil_append, List.cons_append]
 let s2 : ASt := { s with heap := (N + 2, .cells [i64 (qa5 .i64 (c + 1))]) :: (N + 1, .cells u.c) :: (N, .cells [i64 a]) :: H0 }
 refine ⟨s2, ?_, rfl, TF.refl s⟩
 refine qeV (cf := cf115) (np := 5) (args' := [t.v, i64 l, .ptr (N + 2) 0, .ptr N 0, .ptr (N + 1) 0]) (by kernel_rfl) (by kernel_rfl) rfl (by simp only [List.all_cons, qam]; rfl) (by simp only [List.map_cons, qao]; rfl) ((s115_eq _ _ _ _ _ _ _ _).trans (?_ : _ = some (.tuple [(qdb a u c t l).2.1.v, bl (qdb a u c t l).2.2], s2))) (qcR _ _) (by rw [Tm.v_eq]; rfl)
 have hst : stH s (.ptr (N + 2) 0) [i64 (qa5 .i64 (c + 1))] = some s2 := quz hr rfl rfl
 have c1 : qap (qaf CP n E).E s (N + 2) = some [i64 c] := qaZ hr
 have c2 : qap (qaf CP n E).E s2 (N + 2) = some [i64 (qa5 .i64 (c + 1))] := qaZ rfl
 have c3 : qap (qaf CP n E).E s2 (N + 1) = some u.c := by rw [qbf (s := s2) rfl (by omega)]; exact qaZ rfl
 have c4 : qap (qaf CP n E).E s2 N = some [i64 a] := by rw [qbf (s := s2) rfl (by omega), qbf rfl (by omega)]; exact qaZ rfl
 unfold s115 qdb
 by_cases ha : qa5 .i64 (qa5 .i64 (c + 1) - 1) = a
 ·simp only [ldP c1, ldP c2, ldP c3, ldP c4, qb1, qbp, hst, ha, if_true, qak, qaX, qaC, qag, qaq, qaK, qbM, decide_true, qab, cond_true, Option.map_some, Option.bind_some]
 ·simp only [ldP c1, ldP c2, ldP c3, ldP c4, qb1, qbp, hst, ha, if_false, qak, qaX, qaC, qag, qaq, qaK, qbM, decide_false, qab, cond_false, Option.map_some, Option.bind_some]
theorem qpQ (D : Nat) (hD : D ≤ 900000) : UC 60 (fun t : Tm => [t.v]) (fun t _ _ => t.size ≤ D) (fun t => t.v) := by
 refine UC.of (cf := cf60) (np := 1) (by kernel_rfl) (by kernel_rfl) (fun _ => rfl) (fun _ => by simp only [List.all_cons, qam]; rfl) (fun _ => by simp only [List.map_cons, qao]; rfl) (fun _ => Stab.pure _) (fun t lo => qaT lo _)
  ((qdU (R := fun _ _ _ _ => True) (fv := fun _ => _) (fun _ _ _ _ _ _ _ _ => trivial) (fun _ => rfl) (fun _ => rfl) (fun _ t _ _ _ => ⟨Nat.le_refl _, fun _ _ => trivial⟩) D (qqn (g := fun t _ => (t, true)) (Ad := fun _ => True) (d := D) qn8)).mono fun n h t E s hs => ?_)
 obtain ⟨s', h', _, _⟩ := h () () E s t 0 hs trivial (by omega) (by omega) trivial
 have e := qip (σ := Unit) (fun t _ => t) (fun _ _ => ⟨rfl, rfl⟩) D () t 0 hs
 rw [show (fun (x : Unit) (t : Tm) (l : Int) => (x, (fun (t : Tm) (_ : Int) => (t, true)) t l)) = fun x t l => (x, (fun (t : Tm) (_ : Int) => t) t l, true) from rfl, e, qqm t.size t 0 (Nat.le_refl _)] at h'
 refine ⟨t.v, s', (s60_eq _ _ _ _).trans ?_, qao _⟩
 unfold s60
 simp only [h', qak, qaX, qaC, Option.bind_some, qaa]
theorem quJ (t : Tm) (hs : t.size ≤ 100000) : UC 66 (fun p : Int × Tm => [t.v, i64 p.1, p.2.v]) (fun p _ _ => p.2.size ≤ 100000) (fun p => (qhy p.2 p.1 t).v) := by
 refine UC.of (cf := cf66) (np := 3) (by kernel_rfl) (by kernel_rfl) (fun _ => rfl) (fun _ => by simp only [List.all_cons, qam]; rfl) (fun _ => by simp only [List.map_cons, qao]; rfl) (fun _ => Stab.pure _) (fun t lo => qaT lo _)
  (((qdU (κ := Nat × qaM) (R := RP2) (by_ := qhz) (Ad := fun _ => True) (fv := fun q => .func 115 [] [.ptr (q.1 + 2) 0, .ptr q.1 0, .ptr (q.1 + 1) 0]) (fun q x E s s' r e1 e2 => by unfold RP2 RP at r ⊢; rw [e1]; exact r) (fun _ => rfl) (fun _ => rfl) (fun c t l _ hgo => by
   unfold qhz qdb at hgo ⊢
   split
   ·rename_i h; simp only [h, if_true] at hgo; cases hgo
   ·exact ⟨Nat.le_refl _, fun _ _ => trivial⟩) t.size (qtn t.size)).and (qpQ 200000 (by omega))).mono fun n ⟨h, hcp⟩ p E s hp => ?_)
 obtain ⟨a, u⟩ := p
 simp only at hp ⊢
 let s14 := qae (qae (qae s (.cells [i64 a])) (.cells u.c)) (.cells [i64 0])
 obtain ⟨s', e1, e2, _⟩ := h (s.next, s.heap) (0, a, u) E s14 t 0 (Nat.le_refl _) trivial (by omega) (by omega) rfl
 rw [qlY] at e1
 simp only [qoC a u t hs] at e1
 have hcp' := hcp (qhy u a t) E s' (by have := qoB u a t; omega)
 have hst : stH (qae (qae (qae s (.cells [i64 a])) (.cells u.c)) (.cells [i64 0])) (.ptr (qae (qae s (.cells [i64 a])) (.cells u.c)).next 0) [i64 0] = some s14 := qjI _ _ _ _ _ rfl rfl
 have haw : [i64 a].all qaJ = true := rfl
 have e1' : cl (qaf CP n E) 108 [t.v, i64 0, .func 115 [] [.ptr (qae (qae s (.cells [i64 a])) (.cells u.c)).next 0, .ptr s.next 0, .ptr (qae s (.cells [i64 a])).next 0]] s14 = some ((qhy u a t).v, s') := e1
 refine ⟨(qhy u a t).v, s', (s66_eq _ _ _ _ _ _).trans ?_, qao _⟩
 unfold s66
 simp only [haw, qbp, hst, e1', hcp', qak, qaX, qaC, qsT, Option.bind_some, qaa, qaU, qa8, cnd]
end Go.AI.Tryz
namespace Go.AI.Tryz
abbrev rv (w : Rw) : AVal := .agg [u8 w.1, i64 w.2]
theorem qqv (ng : Bool) (v w : Rw) : eqs [1, 1] ng (rv v) (rv w) = some (bl (cond ng (!(decide (v.1 = w.1) && decide (v.2 = w.2))) (decide (v.1 = w.1) && decide (v.2 = w.2)))) := by
 have h1 : ∀ k a b, qqz (.int k a) (.int k b) = some (decide (a = b)) := fun k a b => by
  show cond (keq k k) (some (ieq a b)) none = _
  rw [qb6]; cases k <;> rfl
 have h2 : ∀ k a b, eqK 1 (.p (.int k a)) (.p (.int k b)) = some (decide (a = b)) := fun k a b => by rw [← h1 k a b]; rfl
 unfold eqs pu
 simp only [qax, qqy, Arg.ev, ql1, h2, Option.bind_some]
 cases decide (v.1 = w.1) <;> cases decide (v.2 = w.2) <;> cases ng <;> rfl
theorem qrP (w : Rw) : UC 97 (fun p : Int × Nat => [u8 p.1, .ptr p.2 0]) (fun p E s => qap E s p.2 = some [u8 w.1, i64 w.2]) (fun p => bl (decide (p.1 = w.1))) := by
 refine UC.of (cf := cf97) (np := 2) (by kernel_rfl) (by kernel_rfl) (fun _ => rfl) (fun _ => rfl) (fun _ => rfl) (fun p => Stab.at p.2 _) (fun _ _ => rfl) (Ev.of fun n p E s hc => ⟨bl (decide (p.1 = w.1)), s, (s97_eq _ _ _ _ _).trans ?_, rfl⟩)
 have hc' : qap (qaf CP n E).E s p.2 = some [u8 w.1, i64 w.2] := by rw [qaQ]; exact hc
 have hl : ldL [u8 w.1, i64 w.2] 0 none = some (u8 w.1) := rfl
 unfold s97
 simp only [ldP hc', hl, Nat.zero_add, qag, qaq, Option.map_some, Option.bind_some, qbD]
abbrev ZC : List AVal := [u8 0, i64 0, i64 0, i64 0, .sl 0 [] .full]
def qjU (t : Tm) (w : Rw) (y : Option Tm) (o : Of) : Option Tm × Bool := if decide (o.1 = w.1) && decide (o.2.1 = w.2) then (some (qhy o.2.2 w.2 t), false) else (y, true)
def qkV (a : Ar) (t : Tm) (w : Rw) : Option Tm := (qbb (qjU t w) none (qgA (fun k => decide (k = w.1)) 0 (qbm t (qaH a)))).1
def xOf : Option Tm → EX
 | none => .normal
 | some _ => .ret
def cOf : Option Tm → List AVal
 | none => ZC
 | some r => r.c
def U55 (x : Vw) (t : Tm) (w : Rw) (q : K27) (y : Option Tm) (E H : qaM) (tk : Nat × List (Nat × Nat × Nat)) : Prop :=
 (q.1.get qah 4 = .ptr q.2.2.1 0 ∧ q.1.get qah 5 = .ptr (q.2.2.1 + 1) 0 ∧ q.1.get qah 6 = .ptr (q.2.2.1 + 2) 0 ∧ q.1.get qah 7 = .ptr (q.2.2.1 + 3) 0 ∧ (∀ t, t < 31 → q.1.has t = true) ∧ (∀ i, q.2.1.get (0, []) i = (0, [])) ∧ q.2.1.has 1 = true ∧ q.2.1.has 2 = true) ∧
 H = (q.2.2.1 + 6, .loop (qoL (xOf y)) (qep (xOf y)) q.1 q.2.1 [17, 18] ra55 rb55) :: (q.2.2.1 + 5, .cells [.func 97 [] [.ptr (q.2.2.1 + 1) 0]]) :: (q.2.2.1 + 4, .cells x.c) :: (q.2.2.1 + 3, .cells [bl y.isSome]) :: (q.2.2.1 + 2, .cells (cOf y)) :: (q.2.2.1 + 1, .cells [u8 w.1, i64 w.2]) :: (q.2.2.1, .cells t.c) :: q.2.2.2
theorem qrQ (x : Vw) (t : Tm) (w : Rw) (hs : t.size ≤ 100000) : Ev fun n => YC (fun q : K27 => q.2.2.1 + 7) (fun q => .yield (q.2.2.1 + 6)) (U55 x t w) (qjU t w) (fun u => u.size ≤ 100000) (fun _ y => y = none) n := by
 refine Ev.succ (((quJ t hs).and (Ev.ge 1)).mono fun n ⟨hput, hn⟩ q y E H pre s o m hos hh hpre hN hU hlv => ?_)
 subst hlv
 obtain ⟨fr, lo, N, H0⟩ := q
 obtain ⟨⟨f4, f5, f6, f7, fh, l0, l1h, l2h⟩, hH⟩ := hU
 simp only at f4 f5 f6 f7 fh l0 l1h l2h hH hpre hN
 subst hH
 obtain ⟨k, at_, u⟩ := o
 simp only at hos
 have hpl : ∀ v ∈ pre, v.1 ≠ N + 6 := fun v hv => by have := hpre v hv; omega
 let LP : HObj := .loop 1 none fr lo [17, 18] ra55 rb55
 let base : qaM := (N + 1, .cells [u8 w.1, i64 w.2]) :: (N, .cells t.c) :: H0
 let P : qaM := pre ++ [(N + 6, LP), (N + 5, .cells [.func 97 [] [.ptr (N + 1) 0]]), (N + 4, .cells x.c)]
 let hp : Option Tm → Bool → qaM := fun r b => P ++ (N + 3, .cells [bl b]) :: (N + 2, .cells (cOf r)) :: base
 let uf : ASt → ASt := fun s => { s with heap := pre ++ (N + 6, LP) :: (N + 5, .cells [.func 97 [] [.ptr (N + 1) 0]]) :: (N + 4, .cells x.c) :: (N + 3, .cells [bl false]) :: (N + 2, .cells ZC) :: base }
 have hP : ∀ v ∈ P, N + 3 < v.1 := by
  intro v hv
  simp only [P, List.mem_append, List.mem_cons, List.not_mem_nil, or_false] at hv
  rcases hv with hv | rfl | rfl | rfl
  ·have := hpre v hv; omega
  ·simp only; omega
  ·simp only; omega
  ·simp only; omega
 have hu0 : (uf s).heap = hp none false := by simp only [uf, hp, P, base, cOf, List.append_assoc, List.cons_append, List.nil_append]
 have hc1 : ∀ (m : Nat) r b (s' : ASt), s'.heap = hp r b → qap (qaf CP m E).E s' (N + 1) = some [u8 w.1, i64 w.2] := fun m r b s' h => qdo (pre := P ++ [(N + 3, .cells [bl b]), (N + 2, .cells (cOf r))]) (H := (N, .cells t.c) :: H0) (by rw [h]; simp only [hp, base, List.append_assoc, List.cons_append, List.nil_append]) (by
  intro v hv
  simp only [List.mem_append, List.mem_cons, List.not_mem_nil, or_false] at hv
  rcases hv with hv | rfl | rfl
  ·have := hP v hv; omega
  ·simp only; omega
  ·simp only; omega)
 have hc0 : ∀ (m : Nat) r b (s' : ASt), s'.heap = hp r b → qap (qaf CP m E).E s' N = some t.c := fun m r b s' h => qdo (pre := P ++ [(N + 3, .cells [bl b]), (N + 2, .cells (cOf r)), (N + 1, .cells [u8 w.1, i64 w.2])]) (H := H0) (by rw [h]; simp only [hp, base, List.append_assoc, List.cons_append, List.nil_append]) (by
  intro v hv
  simp only [List.mem_append, List.mem_cons, List.not_mem_nil, or_false] at hv
  rcases hv with hv | rfl | rfl | rfl
  ·have := hP v hv; omega
  ·simp only; omega
  ·simp only; omega
  ·simp only; omega)
 let r : Tm := qhy u w.2 t
 let sA : ASt := { uf s with heap := hp (some r) false }
 let sB : ASt := { uf s with heap := hp (some r) true }
 have st2 : stH (uf s) (.ptr (N + 2) 0) r.c = some sA := by
  have := qmx (s := uf s) (pre := P ++ [(N + 3, .cells [bl false])]) (l := N + 2) (o := 0) (zs := ZC) (cs := r.c) (new := r.c) (H := base) (by rw [hu0]; simp only [hp, cOf, List.append_assoc, List.cons_append, List.nil_append]) (by
   intro v hv
   simp only [List.mem_append, List.mem_cons, List.not_mem_nil, or_false] at hv
   rcases hv with hv | rfl
   ·have := hP v hv; omega
   ·simp only; omega) rfl rfl
  rw [this]
  simp only [sA, hp, cOf, List.append_assoc, List.cons_append, List.nil_append]
 have st3 : stH sA (.ptr (N + 3) 0) [bl true] = some sB := by
  have := qmx (s := sA) (pre := P) (l := N + 3) (o := 0) (zs := [bl false]) (cs := [bl true]) (new := [bl true]) (H := (N + 2, .cells r.c) :: base) rfl (by
   intro v hv
   have := hP v hv; omega) rfl rfl
  rw [this]
  rfl
 have e1 : AVal.cells (some 2) (rwV (k, at_, u)) = some [u8 k, i64 at_] := rfl
 have l2 : ldL [u8 k, i64 at_] 0 (some 2) = some (rv (k, at_)) := rfl
 have l2w : ldL [u8 w.1, i64 w.2] 0 (some 2) = some (rv w) := rfl
 have l1w : ldL [u8 w.1, i64 w.2] 1 none = some (i64 w.2) := rfl
 have st2' : stH (uf s) (.ptr (N + 2) 0) (qhy u w.2 t).c = some sA := st2
 have hput' := hput (w.2, u) E (uf s) hos
 simp only at hput'
 have hx : ∃ s2, qq2 31 3 (qaf CP n E) n ra55 rb55 uf ((17, rwV (k, at_, u)) :: (18, u.v) :: [(4, .ptr N 0), (5, .ptr (N + 1) 0), (6, .ptr (N + 2) 0), (7, .ptr (N + 3) 0)]) [(1, (0, [])), (2, (0, []))] s = some (qjz (xOf (qjU t w none (k, at_, u)).1), s2) ∧ s2.heap = hp (qjU t w none (k, at_, u)).1 (qjU t w none (k, at_, u)).1.isSome ∧ s2.next = s.next := by
  by_cases hm : (decide (k = w.1) && decide (at_ = w.2)) = true
  ·have hst : qjU t w none (k, at_, u) = (some r, false) := by unfold qjU; rw [if_pos hm]
   rw [hst]
   refine ⟨sB, (y55_eq (qaf CP n E) n uf N (N + 1) (N + 2) (N + 3) (rwV (k, at_, u)) u.v s).trans ?_, rfl, rfl⟩
   unfold y55
   simp only [e1, qia, l2, ldP (hc1 n none false (uf s) hu0), ldP (hc0 n none false (uf s) hu0), l2w, l1w, qqv, hm, hput', st2', st3, qbK, qak, qaX, qaC, Bool.not_true, qab, cond_true, cond_false, Option.bind_some, qaa]
   rfl
  ·have hst : qjU t w none (k, at_, u) = (none, true) := by unfold qjU; rw [if_neg hm]
   have hm : (decide (k = w.1) && decide (at_ = w.2)) = false := by simpa using hm
   rw [hst]
   refine ⟨uf s, (y55_eq (qaf CP n E) n uf N (N + 1) (N + 2) (N + 3) (rwV (k, at_, u)) u.v s).trans ?_, hu0, rfl⟩
   unfold y55
   simp only [e1, qia, l2, ldP (hc1 n none false (uf s) hu0), ldP (hc0 n none false (uf s) hu0), l2w, l1w, qqv, hm, qbK, qak, qaX, qaC, Bool.not_false, qab, cond_false, Option.bind_some]
   rfl
 obtain ⟨s2, hrun, hs2, hs2n⟩ := hx
 generalize hr : qjU t w none (k, at_, u) = R at hrun hs2
 have hgo : qiC (xOf R.1) = R.2 ∧ (R.2 = true → R.1 = none) := by
  subst hr
  unfold qjU
  split <;> exact ⟨rfl, by simp⟩
 have hs2' : s2.heap = pre ++ (N + 6, .loop 1 none fr lo [17, 18] ra55 rb55) :: ((N + 5, .cells [.func 97 [] [.ptr (N + 1) 0]]) :: (N + 4, .cells x.c) :: (N + 3, .cells [bl R.1.isSome]) :: (N + 2, .cells (cOf R.1)) :: base) := by
  rw [hs2]; simp only [hp, P, LP, base, List.append_assoc, List.cons_append, List.nil_append]
 have hy := qom (n := n) (nt := 31) (nl := 3) (E := E) (ly := N + 6) (fr := fr) (lo := lo) (pre := pre) (F0 := [(4, .ptr N 0), (5, .ptr (N + 1) 0), (6, .ptr (N + 2) 0), (7, .ptr (N + 3) 0)]) (L := [(1, (0, [])), (2, (0, []))]) (v1 := rwV (k, at_, u)) (v2 := u.v) (x := xOf R.1) (by kernel_rfl) (by kernel_rfl) (by omega) (by omega) (by omega) hh hpl
  (fun t u hu => by
   simp only [qaj] at hu
   split at hu
   ·rename_i e; subst e; rw [f4]; simpa using hu
   ·split at hu
    ·rename_i e; subst e; rw [f5]; simpa using hu
    ·split at hu
     ·rename_i e; subst e; rw [f6]; simpa using hu
     ·split at hu
      ·rename_i e; subst e; rw [f7]; simpa using hu
      ·cases hu) fh
  (fun i p hi => by
   simp only [qaj] at hi
   split at hi
   ·rename_i e; subst e
    simp only [Option.some.injEq] at hi
    subst hi
    exact ⟨l0 _, l1h⟩
   ·split at hi
    ·rename_i e; subst e
     simp only [Option.some.injEq] at hi
     subst hi
     exact ⟨l0 _, l2h⟩
    ·cases hi) (by simp only [List.all_cons, qam]; rfl) hrun hs2'
 rw [hgo.1] at hy
 refine ⟨_, _, hy, rfl, hs2n, ⟨⟨f4, f5, f6, f7, fh, l0, l1h, l2h⟩, rfl⟩, hgo.2⟩
end Go.AI.Tryz
namespace Go.AI.Tryz
theorem quK {x : Vw} {t : Tm} {w : Rw} {q : K27} {y : Option Tm} {E H : qaM} {tk : Nat × List (Nat × Nat × Nat)} (h : U55 x t w q y E H tk) : qcu E H (q.2.2.1 + 1) = some [u8 w.1, i64 w.2] := by
 obtain ⟨_, rfl⟩ := h
 rw [qbk (by omega), qbk (by omega), qbk (by omega), qbk (by omega), qbk (by omega), qdL]
theorem quL (x : Vw) (t : Tm) (w : Rw) (q : K27) (y : Option Tm) (E H : qaM) (tk : Nat × List (Nat × Nat × Nat)) (h : U55 x t w q y E H tk) : qcu E H (q.2.2.1 + 4) = some x.c ∧ q.2.2.1 + 4 < q.2.2.1 + 7 := by
 obtain ⟨_, rfl⟩ := h
 exact ⟨by rw [qbk (by omega), qbk (by omega), qdL], by omega⟩
theorem quM (x : Vw) (t : Tm) (w : Rw) (q : K27) (y : Option Tm) (E H : qaM) (tk : Nat × List (Nat × Nat × Nat)) (h : U55 x t w q y E H tk) : qcu E H (q.2.2.1 + 5) = some [.func 97 [] [.ptr (q.2.2.1 + 1) 0]] ∧ q.2.2.1 + 5 < q.2.2.1 + 7 := by
 obtain ⟨_, rfl⟩ := h
 exact ⟨by rw [qbk (by omega), qdL], by omega⟩
theorem qto (x : Vw) (t : Tm) (w : Rw) : Ev fun n => SmC (fun q : K27 => q.2.2.1 + 7) (fun q => .func 97 [] [.ptr (q.2.2.1 + 1) 0]) (U55 x t w) (fun k => decide (k = w.1)) n :=
 ((qrP w).and (Ev.ge 1)).mono fun n ⟨h, hn⟩ q y E H pre s i hi hh hp hU => by
  rw [qgW CP hn]
  refine h (.ofNat (i + 1), q.2.2.1 + 1) E s ?_
  rw [qen hh (fun v hv => by have := hp v hv; simp only at this; omega)]
  exact quK hU
theorem qoD {a : Ar} {t : Tm} (hc : qbQ a t = 0) (ok : t.Ok) (h1 : a.ids.length ≤ 100000) (hs : t.size ≤ 100000) (hg : ∀ p ∈ qbm t (qaH a), p.1.top ≤ Int.ofNat p.1.ids.length) : ∀ p ∈ qbm t (qaH a), ∀ i, i < 22 → ∀ u, qbC i p.1 p.2 = some u → u.size ≤ 100000 := by
 intro p hp i hi u hu
 obtain ⟨hn, hsz⟩ := qeJ _ t (qaH a) (Nat.le_refl _) (qis hc ok h1 hs) p hp
 have := (keep hn (hg p hp) hi hu).le
 omega
mutual
theorem qjV : ∀ (t : Tm) (x : Sc), x.top ≤ Int.ofNat x.ids.length → ∀ p ∈ qbm t x, p.1.top ≤ Int.ofNat p.1.ids.length
 | .mk k n m i ks, x, hx => by
  intro p hp
  rw [qbm] at hp
  rcases List.mem_cons.1 hp with rfl | hp
  ·exact hx
  ·refine qhA ks _ 0 (fun j => ?_) p hp
   unfold Sc.kid
   split
   ·simp only [Sc.with, List.length_append, List.length_cons, List.length_nil, Int.ofNat_eq_natCast] at hx ⊢; omega
   ·split
    ·simp only [Sc.with, List.length_append, List.length_cons, List.length_nil, Int.ofNat_eq_natCast] at hx ⊢; omega
    ·split
     ·exact hx
     ·exact hx
theorem qhA : ∀ (ks : List Tm) (sc : Nat → Sc) (j : Nat), (∀ j, (sc j).top ≤ Int.ofNat (sc j).ids.length) → ∀ p ∈ qby sc j ks, p.1.top ≤ Int.ofNat p.1.ids.length
 | [], _, _, _ => by intro p hp; simp only [qby] at hp; cases hp
 | u :: r, sc, j, hx => by
  intro p hp
  simp only [qby, List.mem_append] at hp
  rcases hp with hp | hp
  ·exact qjV u _ (hx j) p hp
  ·exact qhA r sc (j + 1) hx p hp
end
theorem qni (a : Ar) (t : Tm) : ∀ p ∈ qbm t (qaH a), p.1.top ≤ Int.ofNat p.1.ids.length := qjV t _ (by simp only [qaH, List.length_map]; exact Int.le_refl _)
theorem qtp (a : Ar) (t : Tm) (w : Rw) (oa : a.Ok) (ok : t.Ok) (h1 : a.ids.length ≤ 100000) (hs : t.size ≤ 100000) (hc : qbQ a t = 0) : PC CP 55 [a.v, t.v, rv w] (qeY (qkV a t w)) := by
 have hav : AVal.cells (some 4) a.v = some [.p (.sl a.ids.length (qaY Ty.cells a.ids)), bl a.root.cell, i64 a.root.n, bl a.jumps] := rfl
 have hal : ldL [.p (.sl a.ids.length (qaY Ty.cells a.ids)), bl a.root.cell, i64 a.root.n, bl a.jumps] 0 (some 4) = some a.v := rfl
 have hnd := qis hc ok h1 hs
 let x := vw (qaH a) t
 have hoff := qjO (κ := K27) (N0 := fun q => q.2.2.1 + 7) (l4 := fun q => q.2.2.1 + 4) (l7 := fun q => q.2.2.1 + 5) (yv := fun q => .yield (q.2.2.1 + 6)) (someV := fun q => .func 97 [] [.ptr (q.2.2.1 + 1) 0]) (U := U55 x t w) (st := qjU t w) (sm := fun k => decide (k = w.1)) (OS := fun u => u.size ≤ 100000) (live := fun _ y => y = none) hnd (by omega) (fun m y h => h) (fun _ => rfl) (fun _ => rfl) (fun _ => rfl) (fun _ => rfl) (quM x t w) (quL x t w) (qoD hc ok h1 hs (qni a t)) (qrQ x t w hs) (qto x t w)
 refine PC.of2 (cf := cf55) (np := 3) (args' := [a.v, t.v, rv w]) (by kernel_rfl) (by kernel_rfl) rfl (by simp only [List.all_cons, qam]; rfl) (by simp only [List.map_cons, qao]; rfl) (fun lo => qbj lo _)
  (((qqs a t h1).and ((qol (ι := Nat) x (fun N => .func 97 [] [.ptr (N + 1) 0]) (fun _ => rfl) (fun _ => rfl) (fun _ => rfl) (fun _ => rfl)).and (hoff.and (nothing_c.and (Ev.ge 1))))).mono fun n ⟨hl, ho, hoff, hnone, hn⟩ E s => ?_)
 let N := s.next
 let s14 := qae (qae (qae (qae s (.cells t.c)) (.cells [u8 w.1, i64 w.2])) (.cells ZC)) (.cells [bl false])
 let s21 := qae (qae s14 (.cells x.c)) (.cells [.func 97 [] [.ptr (N + 1) 0]])
 let R := qkV a t w
 suffices s55 (qaf CP n E) n a.v t.v (rv w) s = some (qeY R, s21) from ⟨_, s21, (s55_eq _ _ _ _ _ _).trans this, qa2 _⟩
 have hrf : ∀ (F : FL) (L : LL) (kn kx kr : ASt → Res), qal F 4 = some (.ptr N 0) → qal F 5 = some (.ptr (N + 1) 0) → qal F 6 = some (.ptr (N + 2) 0) → qal F 7 = some (.ptr (N + 3) 0) → (∃ p, qal L 1 = some p) → (∃ p, qal L 2 = some p) →
   (∀ (s' : ASt) (P H : qaM), s'.heap = P ++ (N + 3, .cells [bl R.isSome]) :: (N + 2, .cells (cOf R)) :: H → (∀ v ∈ P, N + 3 < v.1) → ∃ s2 r', qaB r' = qeY R ∧ (match R with | none => kn s' = some (r', s2) | some _ => kr s' = some (r', s2))) →
   qmi (qaf CP n E) n 31 (.func 94 [] [.ptr (N + 4) 0, .ptr (N + 5) 0]) [17, 18] ra55 rb55 F L s21 kn kx kr (qeY R) := by
  intro F L kn kx kr hF4 hF5 hF6 hF7 ⟨p1, hL1⟩ ⟨p2, hL2⟩ hkn
  refine qth hn fun fr lo hF hh hlo hL => ?_
  let LP : Option Tm → HObj := fun y => .loop (qoL (xOf y)) (qep (xOf y)) fr lo [17, 18] ra55 rb55
  have hU : U55 x t w (fr, lo, N, s.heap) none E (qae s21 (LP none)).heap (qoj (qae s21 (LP none))) := ⟨⟨hF 4 _ hF4, hF 5 _ hF5, hF 6 _ hF6, hF 7 _ hF7, hh, hlo, hL 1 _ hL1, hL 2 _ hL2⟩, rfl⟩
  obtain ⟨s', pre', H', e1, e2, e3, e4, ⟨_, hH'⟩⟩ := hoff (fr, lo, N, s.heap) none E (qae s21 (LP none)) (Nat.le_refl _) hU rfl
  have hR : (qbb (qjU t w) none (qgA (fun k => decide (k = w.1)) 0 (qbm t (qaH a)))).1 = R := rfl
  rw [hR] at hH'
  subst hH'
  simp only at e2 e3
  obtain ⟨s2, r', her, hk⟩ := hkn { s' with heap := pre' ++ (s21.next, .gone) :: (N + 5, .cells [.func 97 [] [.ptr (N + 1) 0]]) :: (N + 4, .cells x.c) :: (N + 3, .cells [bl R.isSome]) :: (N + 2, .cells (cOf R)) :: (N + 1, .cells [u8 w.1, i64 w.2]) :: (N, .cells t.c) :: s.heap }
   (pre' ++ [(s21.next, .gone), (N + 5, .cells [.func 97 [] [.ptr (N + 1) 0]]), (N + 4, .cells x.c)]) ((N + 1, .cells [u8 w.1, i64 w.2]) :: (N, .cells t.c) :: s.heap) (by simp only [List.append_assoc, List.cons_append, List.nil_append]) (by
   intro v hv
   simp only [List.mem_append, List.mem_cons, List.not_mem_nil, or_false] at hv
   rcases hv with hv | rfl | rfl | rfl
   ·have := e3 v hv; omega
   ·show N + 3 < N + 1 + 1 + 1 + 1 + 1 + 1; omega
   ·show N + 3 < N + 5; omega
   ·show N + 3 < N + 4; omega)
  refine ⟨xOf R, s', pre', _, s2, r', e1, e2, fun v hv => by have := e3 v hv; show v.1 ≠ N + 1 + 1 + 1 + 1 + 1 + 1; omega, her, ?_⟩
  generalize R = R' at hk ⊢
  cases R' with
  | none => exact hk
  | some r => exact hk
 have haw2 : AVal.cells (some 2) (rv w) = some [u8 w.1, i64 w.2] := rfl
 have hwa : [u8 w.1, i64 w.2].all qaJ = true := rfl
 have ho' : cl (qaf CP n E) 54 [x.v, .func 97 [] [.ptr (qae s (.cells t.c)).next 0]] (qae (qae (qae (qae s (.cells t.c)) (.cells [u8 w.1, i64 w.2])) (.cells [u8 0, i64 0, i64 0, i64 0, .sl 0 [] .full])) (.cells [bl false])) = some (.func 94 [] [.ptr (N + 4) 0, .ptr (N + 5) 0], s21) := ho s.next E s14
 have hl' : ∀ E s, cl (qaf CP n E) 65 [a.v, t.v] s = some (x.v, s) := hl
 have hc6 : qap (qaf CP n E).E (qae (qae (qae (qae s (.cells t.c)) (.cells [u8 w.1, i64 w.2])) (.cells [u8 0, i64 0, i64 0, i64 0, .sl 0 [] .full])) (.cells [bl false])) s.next = some t.c := by
  show qap _ s14 s.next = _
  rw [qbf (s := s14) rfl (by show s.next + 1 + 1 + 1 ≠ s.next; omega), qbf rfl (by show s.next + 1 + 1 ≠ s.next; omega), qbf rfl (by show s.next + 1 ≠ s.next; omega)]
  exact qaZ rfl
 unfold s55
 simp only [hav, hal, haw2, hwa, ldP hc6, hl', ho', qak, qaX, qsT, Option.bind_some, qaa, qaU, qa8, cnd, qav]
 refine qqr 5 2 ?_ (by omega) ?_ (hrf _ _ _ _ _ rfl rfl rfl rfl ⟨_, rfl⟩ ⟨_, rfl⟩ fun s' P H hh hP => ?_)
 ·intro p hp
  simp only [List.mem_cons, List.not_mem_nil, or_false] at hp
  rcases hp with rfl | rfl | rfl | rfl | rfl | rfl | rfl | rfl | rfl | rfl | rfl | rfl | rfl | rfl | rfl <;> simp only <;> omega
 ·intro p hp
  simp only [List.mem_cons, List.not_mem_nil, or_false] at hp
  rcases hp with rfl | rfl | rfl | rfl <;> simp only <;> omega
 ·have q3 : ∀ v ∈ P, v.1 ≠ N + 3 := fun v hv => by have := hP v hv; omega
  have q2 : ∀ (o : HObj), ∀ v ∈ P ++ [(N + 3, o)], v.1 ≠ N + 2 := fun o v hv => by
   simp only [List.mem_append, List.mem_cons, List.not_mem_nil, or_false] at hv
   rcases hv with hv | rfl
   ·have := hP v hv; omega
   ·show N + 3 ≠ N + 2; omega
  have r3 : ∀ (s' : ASt) b c, s'.heap = P ++ (N + 3, .cells [b]) :: (N + 2, .cells c) :: H → qap (qaf CP n E).E s' (s.next + 3) = some [b] := fun s' b c h => qdo h q3
  have r2 : ∀ (s' : ASt) b c, s'.heap = P ++ (N + 3, .cells [b]) :: (N + 2, .cells c) :: H → qap (qaf CP n E).E s' (s.next + 2) = some c := fun s' b c h => qdo (l := N + 2) (pre := P ++ [(N + 3, .cells [b])]) (H := H) (by rw [h]; simp only [List.append_assoc, List.cons_append, List.nil_append]) (q2 _)
  generalize R = R' at hh ⊢
  cases R' with
  | some r =>
   refine ⟨s', .tuple [r.v, bl true], (qa2 (some r)), ?_⟩
   have a3 : qap (qaf CP n E).E s' (qae (qae (qae s (.cells t.c)) (.cells [u8 w.1, i64 w.2])) (.cells [u8 0, i64 0, i64 0, i64 0, .sl 0 [] .full])).next = some [bl true] := r3 s' _ _ hh
   have a2 : qap (qaf CP n E).E s' (qae (qae s (.cells t.c)) (.cells [u8 w.1, i64 w.2])).next = some r.c := r2 s' _ _ hh
   simp only [ldP a3, ldP a2, qb1, qaX, Option.bind_some]
  | none =>
   let s1 : ASt := { s' with heap := P ++ (N + 3, .cells [bl false]) :: (N + 2, .cells Tm.z.c) :: H }
   have w2 : stH s' (.ptr (qae (qae s (.cells t.c)) (.cells [u8 w.1, i64 w.2])).next 0) Tm.z.c = some s1 := by
    have := qmx (s := s') (pre := P ++ [(N + 3, .cells [bl false])]) (l := N + 2) (o := 0) (zs := ZC) (cs := Tm.z.c) (new := Tm.z.c) (H := H) (by rw [hh]; simp only [cOf, Option.isSome, List.append_assoc, List.cons_append, List.nil_append]) (q2 _) rfl rfl
    simp only [List.append_assoc, List.cons_append, List.nil_append] at this
    exact this
   have w3 : stH s1 (.ptr (qae (qae (qae s (.cells t.c)) (.cells [u8 w.1, i64 w.2])) (.cells [u8 0, i64 0, i64 0, i64 0, .sl 0 [] .full])).next 0) [bl false] = some s1 := qmx (s := s1) (l := N + 3) (zs := [bl false]) rfl q3 rfl rfl
   refine ⟨s1, qeY none, qa2 none, ?_⟩
   have a3 : qap (qaf CP n E).E s1 (qae (qae (qae s (.cells t.c)) (.cells [u8 w.1, i64 w.2])) (.cells [u8 0, i64 0, i64 0, i64 0, .sl 0 [] .full])).next = some [bl false] := r3 s1 _ _ rfl
   have a2 : qap (qaf CP n E).E s1 (qae (qae s (.cells t.c)) (.cells [u8 w.1, i64 w.2])).next = some Tm.z.c := r2 s1 _ _ rfl
   have hz : AVal.cells (some 5) Tm.z.v = some Tm.z.c := rfl
   have hzl : ldL Tm.z.c 0 (some 5) = some Tm.z.v := rfl
   simp only [hnone, hz, hzl, w2, w3, ldP a3, ldP a2, qb1, qbK, Option.bind_some, qaa, qai, qar, qas, qav, Option.getD_none, Option.isSome_none]
end Go.AI.Tryz
namespace Go.AI.Tryz
def doF (a : Ar) (t : Tm) (w : Rw) : Tm × Int := if qbQ a t = 0 then (match qkV a t w with | some r => (r, 0) | none => (.z, 7)) else (.z, qbQ a t)
theorem quN (t : Tm) (n : Int) : qaB (.tuple [t.v, i64 n]) = .tuple [t.v, i64 n] := by rw [Tm.v_eq]; rfl
theorem qrR (lo : Nat) (t : Tm) (n : Int) : qd5 lo (.tuple [t.v, i64 n]) = true := by rw [Tm.v_eq]; rfl
theorem zbd : bd [u8 0, i64 0, i64 0, i64 0, .sl 0 [] .full] [] = some (.agg [u8 0, i64 0, i64 0, i64 0, .sl 0 [] .full]) := rfl
theorem qqw : AVal.cells (some 5) (.agg [u8 0, i64 0, i64 0, i64 0, .sl 0 [] .full]) = some [u8 0, i64 0, i64 0, i64 0, .sl 0 [] .full] := rfl
theorem qu1 : ldL [u8 0, i64 0, i64 0, i64 0, .sl 0 [] .full] 0 (some 5) = some (.agg [u8 0, i64 0, i64 0, i64 0, .sl 0 [] .full]) := rfl
theorem qtq : over [u8 0, i64 0, i64 0, i64 0, .sl 0 [] .full] 0 [u8 0, i64 0, i64 0, i64 0, .sl 0 [] .full] = some [u8 0, i64 0, i64 0, i64 0, .sl 0 [] .full] := rfl
theorem qfn (a : Ar) : AVal.cells (some 4) a.v = some [.p (.sl a.ids.length (qaY Ty.cells a.ids)), bl a.root.cell, i64 a.root.n, bl a.jumps] := rfl
theorem qqx (a : Ar) : ldL [.p (.sl a.ids.length (qaY Ty.cells a.ids)), bl a.root.cell, i64 a.root.n, bl a.jumps] 0 (some 4) = some a.v := rfl
theorem qoE (w : Rw) : AVal.cells (some 2) (rv w) = some [u8 w.1, i64 w.2] := rfl
theorem quO (w : Rw) : ldL [u8 w.1, i64 w.2] 0 (some 2) = some (rv w) := rfl
theorem do_c (a : Ar) (t : Tm) (w : Rw) (oa : a.Ok) (ok : t.Ok) (h1 : a.ids.length ≤ 100000) (hs : t.size ≤ 100000) : PC CP 29 [a.v, t.v, rv w] (.tuple [(doF a t w).1.v, i64 (doF a t w).2]) := by
 unfold doF
 by_cases hc : qbQ a t = 0
 ·rw [if_pos hc]
  have hd := qtp a t w oa ok h1 hs hc
  cases hr : qkV a t w with
  | some r =>
   rw [hr] at hd
   refine PC.of2 (cf := cf29) (np := 3) (args' := [a.v, t.v, rv w]) (by kernel_rfl) (by kernel_rfl) rfl (by simp only [List.all_cons, qam]; rfl) (by simp only [List.map_cons, qao]; rfl) (fun lo => qrR lo _ _)
    (((qjP a t oa ok h1 hs).and hd).mono fun n ⟨hl, hd⟩ E s => ⟨.tuple [r.v, i64 0], s, (s29_eq _ _ _ _ _ _).trans ?_, quN _ _⟩)
   rw [hc] at hl
   unfold s29
   simp only [qfn, qqx, qoE, quO, hl, hd, qak, qaX, qaC, qay, qgV, qag, qbL, decide_true, Bool.not_true, qab, cond_false, Option.map_some, Option.bind_some, qaa, qai, qar, qas, qat, qav, Option.getD_some, Option.isSome_some]
  | none =>
   rw [hr] at hd
   refine PC.of2 (cf := cf29) (np := 3) (args' := [a.v, t.v, rv w]) (by kernel_rfl) (by kernel_rfl) rfl (by simp only [List.all_cons, qam]; rfl) (by simp only [List.map_cons, qao]; rfl) (fun lo => qrR lo _ _)
    (((qjP a t oa ok h1 hs).and hd).mono fun n ⟨hl, hd⟩ E s => ⟨.tuple [.agg [u8 0, i64 0, i64 0, i64 0, .sl 0 [] .full], i64 7], s, (s29_eq _ _ _ _ _ _).trans ?_, rfl⟩)
   rw [hc] at hl
   unfold s29
   simp only [qfn, qqx, qoE, quO, hl, hd, zbd, qqw, qu1, qtq, qak, qaX, qaC, qay, qgV, qag, qbL, decide_true, Bool.not_true, Bool.not_false, qab, cond_true, cond_false, Option.map_some, Option.bind_some, qaa, qai, qar, qas, qat, qav, Option.getD_none, Option.isSome_none]
 ·rw [if_neg hc]
  refine PC.of2 (cf := cf29) (np := 3) (args' := [a.v, t.v, rv w]) (by kernel_rfl) (by kernel_rfl) rfl (by simp only [List.all_cons, qam]; rfl) (by simp only [List.map_cons, qao]; rfl) (fun lo => qrR lo _ _)
   ((qjP a t oa ok h1 hs).mono fun n hl E s => ⟨.tuple [.agg [u8 0, i64 0, i64 0, i64 0, .sl 0 [] .full], i64 (qbQ a t)], s, (s29_eq _ _ _ _ _ _).trans ?_, rfl⟩)
  unfold s29
  simp only [qfn, qqx, qoE, quO, hl, hc, zbd, qqw, qu1, qtq, qak, qaX, qay, qgV, qag, qbL, decide_false, Bool.not_false, qab, cond_true, Option.map_some, Option.bind_some, qaa, qai, qar, qas]
end Go.AI.Tryz
namespace Go.AI.Tryz
abbrev Y41 := Option (Option Of)
def x41 : Y41 → EX
 | none => .normal
 | some none => .ret
 | some (some _) => .exit 2
structure K41 (ι : Type) where
 p : ι
 fr : Tr AVal
 lo : Tr (Nat × List AVal)
 M : Nat
 lf : Nat
 P : qaM
 s0 : ASt
end Go.AI.Tryz
namespace Go.AI.Tryz
theorem qfM {sm : Int → Bool} : ∀ {l : List (Sc × Tm)} {b : Int} {o : Of}, o ∈ qgA sm b l → ∃ j p i, l[j]? = some p ∧ o.2.1 = b + Int.ofNat j ∧ i < 22 ∧ o.1 = Int.ofNat (i + 1) ∧ qbC i p.1 p.2 = some o.2.2 ∧ sm o.1 = true
 | [], b, o, h => by simp only [qgA] at h; cases h
 | p :: r, b, o, h => by
  simp only [qgA, List.mem_append] at h
  rcases h with h | h
  ·unfold qdr at h
   rw [List.mem_filterMap] at h
   obtain ⟨i, hi, h⟩ := h
   have hi : i < 22 := by
    simp only [ruL, List.mem_cons, List.not_mem_nil, or_false] at hi
    omega
   split at h
   ·rename_i hs
    rw [Option.map_eq_some_iff] at h
    obtain ⟨u, hu, rfl⟩ := h
    exact ⟨0, p, i, rfl, by simp, hi, rfl, hu, hs⟩
   ·cases h
  ·obtain ⟨j, q, i, h1, h2, h3⟩ := qfM h
   exact ⟨j + 1, q, i, by simpa using h1, by rw [h2]; simp only [Int.ofNat_eq_natCast]; omega, h3⟩
structure Right (a : Ar) (t : Tm) : Prop where
 c : qbQ a t = 0
 ok : t.Ok
theorem Right.nd {a : Ar} {t : Tm} (h : Right a t) (h1 : a.ids.length ≤ 100000) (hs : t.size ≤ 100000) : Nd (qaH a) t := qis h.c h.ok h1 hs
theorem qrS {a : Ar} {t : Tm} {sm : Int → Bool} {o : Of} (h : Right a t) (h1 : a.ids.length ≤ 100000) (hs : t.size ≤ 100000) (ho : o ∈ qgA sm 0 (qbm t (qaH a))) : Right a (qhy o.2.2 o.2.1 t) ∧ (qhy o.2.2 o.2.1 t).size ≤ t.size := by
 have hnd := h.nd h1 hs
 obtain ⟨j, p, i, hj, ha, hi, _, hu, _⟩ := qfM ho
 have hp := List.mem_of_getElem? hj
 obtain ⟨hn, hsz⟩ := qeJ _ t _ (Nat.le_refl _) hnd p hp
 have g := keep hn (qni a t p hp) hi hu
 have hjl : j < t.size := by rw [← qda t (qaH a)]; exact (List.getElem?_eq_some_iff.1 hj).1
 have hshu : Sh o.2.2 := qdk (x := p.1) (by rw [← g.sz]; exact g.ok2)
 obtain ⟨r1, r2, r3, r4⟩ := qiY g.ok (Lk.of_ok g.sz g.ok2) hshu t.size t (qaH a) j (Nat.le_refl _) hj hnd
 have e : qhy o.2.2 o.2.1 t = Tm.put1 o.2.2 j t := by
  unfold qhy
  rw [if_pos (by rw [ha]; simp only [Int.ofNat_eq_natCast]; omega), ha]
  congr 1
  simp only [Int.ofNat_eq_natCast]; omega
 have hle := g.le
 rw [e]
 refine ⟨⟨?_, r3⟩, by omega⟩
 have hc := h.c
 unfold qbQ at hc ⊢
 split at hc
 ·rename_i h0; exact absurd hc h0
 ·rename_i h0
  rw [if_neg h0]
  split at hc
  ·omega
  ·rename_i h6
   rw [if_neg (by omega), ← r1.2 a.root]
   exact hc
end Go.AI.Tryz
namespace Go.AI.Tryz
theorem qmE (a : Ar) (t : Tm) (w : Rw) : qkV a t w = ((qgA (fun k => decide (k = w.1)) 0 (qbm t (qaH a))).find? fun o => decide (o.1 = w.1) && decide (o.2.1 = w.2)).map fun o => qhy o.2.2 w.2 t := by
 unfold qkV
 generalize qgA (fun k => decide (k = w.1)) 0 (qbm t (qaH a)) = l
 induction l with
 | nil => rfl
 | cons o r ih =>
  simp only [qbb, List.find?_cons]
  by_cases hb : (decide (o.1 = w.1) && decide (o.2.1 = w.2)) = true
  ·have e : qjU t w none o = (some (qhy o.2.2 w.2 t), false) := by unfold qjU; rw [if_pos hb]
   rw [e, hb]; rfl
  ·have e : qjU t w none o = (none, true) := by unfold qjU; rw [if_neg hb]
   have hb : (decide (o.1 = w.1) && decide (o.2.1 = w.2)) = false := by simpa using hb
   rw [e, hb]
   exact ih
end Go.AI.Tryz
namespace Go.AI.Tryz
theorem qiw (sm : Int → Bool) (x : Sc) (t : Tm) (b : Int) : qdr sm x t b = (qdr qe3 x t b).filter fun o => sm o.1 := by
 unfold qdr
 rw [List.filter_filterMap]
 congr 1
 funext i
 simp only [qe3, if_true]
 cases h : qbC i x t with
 | none => simp
 | some u =>
  simp only [Option.map_some, Option.filter]
theorem qgD (sm : Int → Bool) : ∀ (l : List (Sc × Tm)) (b : Int), qgA sm b l = (qgA qe3 b l).filter fun o => sm o.1
 | [], b => rfl
 | p :: r, b => by
  simp only [qgA, List.filter_append]
  rw [qiw, qgD sm r]
theorem qoF {sm sm' : Int → Bool} {l : List (Sc × Tm)} {b : Int} {o p : Of} (ho : o ∈ qgA sm b l) (hp : p ∈ qgA sm' b l) (h1 : o.1 = p.1) (h2 : o.2.1 = p.2.1) : o.2.2 = p.2.2 := by
 obtain ⟨j, q, i, a1, a2, _, a3, a4, _⟩ := qfM ho
 obtain ⟨j', q', i', b1, b2, _, b3, b4, _⟩ := qfM hp
 have hj : j = j' := by
  rw [a2, b2] at h2
  simp only [Int.ofNat_eq_natCast] at h2
  omega
 subst hj
 rw [a1, Option.some.injEq] at b1
 subst b1
 have hi : i = i' := by
  rw [a3, b3] at h1
  simp only [Int.ofNat_eq_natCast] at h1
  omega
 subst hi
 rw [a4, Option.some.injEq] at b4
 exact b4
theorem qpR {a : Ar} {t : Tm} {o : Of} (ho : o ∈ qgA qe3 0 (qbm t (qaH a))) : qkV a t (o.1, o.2.1) = some (qhy o.2.2 o.2.1 t) := by
 have hm : o ∈ qgA (fun k => decide (k = o.1)) 0 (qbm t (qaH a)) := by
  rw [qgD, List.mem_filter]
  exact ⟨ho, by simp⟩
 rw [qmE]
 cases hf : (qgA (fun k => decide (k = o.1)) 0 (qbm t (qaH a))).find? fun q => decide (q.1 = o.1) && decide (q.2.1 = o.2.1) with
 | none =>
  have := List.find?_eq_none.1 hf o hm
  simp at this
 | some q =>
  have h1 := List.mem_of_find?_eq_some hf
  have h2 := List.find?_some hf
  simp only [Bool.and_eq_true, decide_eq_true_eq] at h2
  rw [Option.map_some, qoF h1 hm h2.1 h2.2]
inductive St (a : Ar) : Tm → List Rw → Tm → Prop where
 | nil (t) : St a t [] t
 | cons {t u : Tm} {o : Of} {r : List Of} {L : List Rw} (h : qgA qe3 0 (qbm t (qaH a)) = o :: r) (k : St a (qhy o.2.2 o.2.1 t) L u) : St a t ((o.1, o.2.1) :: L) u
end Go.AI.Tryz
namespace Go.AI.Tryz
abbrev qgY (l : List Of) : List Rw := l.map fun o => (o.1, o.2.1)
def qcW (a : Ar) (t : Tm) : List Rw × Bool := if qjD a t = true ∧ qbQ a t = 0 then (qgY (qbs a t), decide (0 < (qbs a t).length)) else ([], false)
theorem qoG {c : Tm → Nat} {most : Nat} : ∀ (ks : List Tm) (a : Nat), a ≤ qjX c most a ks
 | [], a => Nat.le_refl _
 | t :: r, a => by
  simp only [qjX]
  split
  ·have := qoG (c := c) (most := most) r (a + c t); omega
  ·exact Nat.le_refl _
theorem qgE (most : Nat) : ∀ (d : Nat) (t : Tm), 1 ≤ qgm most d t ∧ (qgm most d t ≤ most → qgm most d t = t.size)
 | 0, t => ⟨by simp only [qgm]; omega, fun h => by simp only [qgm] at h; omega⟩
 | d + 1, t => by
  simp only [qgm]
  refine ⟨qoG t.ks 1, fun h => ?_⟩
  rw [qjA t.ks 1 (fun u _ => (qgE most d u).2) (fun u _ => (qgE most d u).1) h, Tm.size_ks t]
theorem qhB {a : Ar} {t : Tm} (h : qjD a t = true) : a.ids.length ≤ 20 ∧ (∀ t ∈ a.ids, t.ps.length ≤ 20) ∧ t.size ≤ 700 := by
 simp only [qjD, Bool.and_eq_true, qmo, decide_eq_true_eq, List.all_eq_true, qky] at h
 refine ⟨h.1.1.1, h.1.1.2, ?_⟩
 have := (qgE 700 200 t).2 h.1.2
 omega
theorem qoH (a : Ar) (t : Tm) (oa : a.Ok) (ok : t.Ok) : PC CP 21 [a.v, t.v] (.tuple [qr7 (qcW a t).1, bl (qcW a t).2]) := by
 unfold qcW
 cases hth : qjD a t with
 | false =>
  have hthc := qqf a t oa ok
  rw [hth] at hthc
  rw [if_neg (by simp)]
  refine PC.of2 (cf := cf21) (np := 2) (args' := [a.v, t.v]) (by kernel_rfl) (by kernel_rfl) rfl (by simp only [List.all_cons, qam]; rfl) (by simp only [List.map_cons, qao]; rfl) (fun _ => rfl)
   (hthc.mono fun n h E s => ⟨.tuple [.sl 0 [] .full, bl false], s, (s21_eq _ _ _ _ _).trans ?_, rfl⟩)
  unfold s21 s21_1
  simp only [qfn, qqx, h, qak, qaX, Bool.not_false, qab, cond_true, qaw, Option.bind_some, qaa, qat]
 | true =>
  obtain ⟨h1, h2, h3⟩ := qhB hth
  have hthc := qqf a t oa ok
  rw [hth] at hthc
  have hA := qnP a (by omega) (fun t ht => by have := h2 t ht; omega)
  have hT := qnM t (by omega)
  have hC := qkC a t oa ok (by omega) (by omega)
  by_cases hc : qbQ a t = 0
  ·rw [if_pos ⟨rfl, hc⟩]
   have hO := qmy a t oa ok (by omega) (by omega)
   unfold qit at hO
   rw [if_pos hc] at hO
   rw [hc] at hC
   refine PC.of2 (cf := cf21) (np := 2) (args' := [a.v, t.v]) (by kernel_rfl) (by kernel_rfl) rfl (by simp only [List.all_cons, qam]; rfl) (by simp only [List.map_cons, qao]; rfl) (fun _ => rfl)
    ((hthc.and ((hA.and hT).and (hC.and hO))).mono fun n ⟨h, ⟨hA, hT⟩, hC, hO⟩ E s => ⟨.tuple [qr7 (qgY (qbs a t)), bl (decide (0 < (qbs a t).length))], s, (s21_eq _ _ _ _ _).trans ?_, rfl⟩)
   have hg : ((0 : Int) < Int.ofNat (qgY (qbs a t)).length) = (0 < (qbs a t).length) := by
    rw [List.length_map]; simp only [Int.ofNat_eq_natCast, eq_iff_iff]; omega
   unfold s21 s21_1 s21_0
   simp only [qfn, qqx, h, hA, hT, hC, hO, hg, qa9, qak, qaX, qag, qaq, qbL, qa9, decide_true, Bool.not_true, qab, cond_true, cond_false, qaw, Option.map_some, Option.bind_some, qaa, qai, qar, qas, qat, qei]
  ·rw [if_neg (fun h => hc h.2)]
   refine PC.of2 (cf := cf21) (np := 2) (args' := [a.v, t.v]) (by kernel_rfl) (by kernel_rfl) rfl (by simp only [List.all_cons, qam]; rfl) (by simp only [List.map_cons, qao]; rfl) (fun _ => rfl)
    ((hthc.and ((hA.and hT).and hC)).mono fun n ⟨h, ⟨hA, hT⟩, hC⟩ E s => ⟨.tuple [.sl 0 [] .full, bl false], s, (s21_eq _ _ _ _ _).trans ?_, rfl⟩)
   unfold s21 s21_1
   simp only [qfn, qqx, h, hA, hT, hC, hc, qak, qaX, qag, qbL, decide_false, Bool.not_true, Bool.not_false, qab, cond_true, cond_false, qaw, Option.map_some, Option.bind_some, qaa, qat]
end Go.AI.Tryz
namespace Go.AI.Tryz
structure Lw (n : Nat) (e : Env) : Prop where
 o : ∀ f args s, f ≠ 12 → cl e f args s = cl (qaf CP n []) f args s
 a : ∀ s, cl e 12 [] s = some (bl true, s)
theorem Lw.c {n : Nat} {e : Env} (h : Lw n e) {f : Nat} {args : List AVal} {r : AVal} (hf : f ≠ 12) (hc : ∀ E s, cl (qaf CP n E) f args s = some (r, s)) : ∀ s, cl e f args s = some (r, s) := fun s => (h.o f args s hf).trans (hc [] s)
abbrev u16 (k : Nat) : AVal := .p (.int .u16 (.ofNat k))
theorem qtr {k : Nat} (h : k < 65536) : qa5 .i64 (Int.ofNat k) = Int.ofNat k := qbW (by simp only [Int.ofNat_eq_natCast]; omega) (by simp only [Int.ofNat_eq_natCast]; omega)
theorem right_ev (a : Ar) (t : Tm) (k : Nat) (hk : k < 65536) (oa : a.Ok) (ok : t.Ok) : Ev fun n => ∀ e, Lw n e → ∃ s', s7 e n a.v t.v (u16 k) s00 = some (bl true, s') := by
 have hoff := qoH a t oa ok
 by_cases his : (qcW a t).2 = true
 ·have hcond : qjD a t = true ∧ qbQ a t = 0 := by
   unfold qcW at his
   split at his
   ·assumption
   ·cases his
  have hT : qcW a t = (qgY (qbs a t), decide (0 < (qbs a t).length)) := by unfold qcW; rw [if_pos hcond]
  rw [hT] at hoff his
  have hpos : 0 < (qbs a t).length := by simpa using his
  obtain ⟨h1, h2, h3⟩ := qhB hcond.1
  let j := k % (qbs a t).length
  have hj : j < (qbs a t).length := Nat.mod_lt _ hpos
  have hjl : j < (qgY (qbs a t)).length := by rw [List.length_map]; exact hj
  let o := (qbs a t)[j]
  have ho : o ∈ qgA qe3 0 (qbm t (qaH a)) := List.getElem_mem hj
  have hw : (qgY (qbs a t))[j]? = some (o.1, o.2.1) := by
   rw [List.getElem?_map, List.getElem?_eq_getElem hj]; rfl
  let u := qhy o.2.2 o.2.1 t
  have hst := qrS (sm := qe3) ⟨hcond.2, ok⟩ (by omega) (by omega) ho
  have hdo := do_c a t (o.1, o.2.1) oa ok (by omega) (by omega)
  have hdF : doF a t (o.1, o.2.1) = (u, 0) := by unfold doF; rw [if_pos hcond.2, qpR ho]
  rw [hdF] at hdo
  have hA := qnP a (by omega) (fun t ht => by have := h2 t ht; omega)
  have hus : u.size ≤ 700 := Nat.le_trans hst.2 h3
  have hchk := qkC a u oa hst.1.ok (by omega) (by omega)
  rw [hst.1.c] at hchk
  refine ((hoff.and (hA.and (qnM t (by omega)))).and ((hdo.and ((qnM u (by omega)).and hchk)).and ((qkx u hst.1.ok).and (qkx t ok)))).mono fun n ⟨⟨hoff, hA, hT⟩, ⟨hdo, hU, hchk⟩, hcu, hct⟩ e he => ?_
  have hoff := he.c (by decide) hoff
  have hA := he.c (by decide) hA
  have hT := he.c (by decide) hT
  have hdo := he.c (by decide) hdo
  have hU := he.c (by decide) hU
  have hchk := he.c (by decide) hchk
  have hcu := he.c (by decide) hcu
  have hct := he.c (by decide) hct
  have h12 := he.a
  have hcv : cv .i64 (u16 k) = some (i64 (.ofNat k)) := by
   rw [qjw, qtr hk]
  have hlen : (qgY (qbs a t)).length = (qbs a t).length := List.length_map _
  have hm0 : Int.ofNat (qgY (qbs a t)).length ≠ 0 := by rw [hlen]; simp only [Int.ofNat_eq_natCast]; omega
  have hrem : (Int.ofNat k).tmod (Int.ofNat (qgY (qbs a t)).length) = Int.ofNat j := by rw [hlen]; rfl
  have hld := fun s => qff (c := rwC) (sz := 2) (fun _ => rfl) e s hw
  have hld' : ∀ s, ldH e s (.elem (qaY rwC (qgY (qbs a t))) (j * 2)) (some 2) = some (rv (o.1, o.2.1)) := hld
  have hle : (!decide (Int.ofNat (min 601 t.size) < Int.ofNat (min 601 u.size))) = true := by
   have := hst.2
   have : u.size ≤ t.size := this
   simp only [Bool.not_eq_true', decide_eq_false_iff_not, Int.ofNat_eq_natCast]; omega
  refine ⟨s00, ?_⟩
  unfold s7 s7_0
  simp only [qfn, qqx, hoff, hpos, hA, hT, hcv, qgl _ _ _ hm0, hrem, qdG hjl, hld', hdo, hU, hchk, hcu, hct, hle, h12, qak, qaX, qaC, qag, qaq, qdF, decide_true, Bool.not_true, qab, cond_true, cond_false, qaw, Option.map_some, Option.bind_some, qaa, qai, qar, qas, qat, qei]
 ·have his : (qcW a t).2 = false := by simpa using his
  rw [his] at hoff
  refine hoff.mono fun n hoff e he => ⟨s00, ?_⟩
  have hoff := he.c (by decide) hoff
  have h12 := he.a
  unfold s7
  simp only [qfn, qqx, hoff, h12, qak, qaX, Bool.not_false, qab, cond_true, qaw, Option.bind_some, qaa, qai, qar, qas, qat]
end Go.AI.Tryz
namespace Go.AI
section
variable {P : Program}
theorem HasT.inv_int {n t pcs k} (h : HasT P n t pcs) (hu : P.underlying t = some (.int k)) : ∃ a, pcs = [.int k a] ∧ (Lit.int k a).wf = true := by
 cases h with
 | int ht a hw => rw [hu] at ht; cases ht; exact ⟨a, rfl, hw⟩
 | bool ht b => rw [hu] at ht; cases ht
 | str ht b _ => rw [hu] at ht; cases ht
 | sl ht _ _ _ => rw [hu] at ht; cases ht
 | struct ht _ _ _ => rw [hu] at ht; cases ht
theorem HasT.inv_bool {n t pcs} (h : HasT P n t pcs) (hu : P.underlying t = some .bool) : ∃ b, pcs = [.bool b] := by
 cases h with
 | bool ht b => exact ⟨b, rfl⟩
 | int ht a hw => rw [hu] at ht; cases ht
 | str ht b _ => rw [hu] at ht; cases ht
 | sl ht _ _ _ => rw [hu] at ht; cases ht
 | struct ht _ _ _ => rw [hu] at ht; cases ht
theorem HasT.inv_sl {n t pcs e} (h : HasT P n t pcs) (hu : P.underlying t = some (.slice e)) : ∃ (m : Nat) (ls : List (List PVal)), n = m + 1 ∧ pcs = [.sl ls.length ls.flatten] ∧ ls.length ≤ maxLen ∧ ∀ l ∈ ls, HasT P m e l := by
 cases h with
 | sl ht ls hl h => rw [hu] at ht; cases ht; exact ⟨_, ls, rfl, rfl, hl, h⟩
 | bool ht b => rw [hu] at ht; cases ht
 | int ht a hw => rw [hu] at ht; cases ht
 | str ht b _ => rw [hu] at ht; cases ht
 | struct ht _ _ _ => rw [hu] at ht; cases ht
theorem HasT.inv_struct {n t pcs fs} (h : HasT P n t pcs) (hu : P.underlying t = some (.struct fs)) : ∃ (m : Nat) (ls : List (List PVal)), n = m + 1 ∧ pcs = ls.flatten ∧ ls.length = fs.size ∧ ∀ (i : Nat) l f, ls[i]? = some l → fs[i]? = some f → HasT P m f.type l := by
 cases h with
 | struct ht ls hl h => rw [hu] at ht; cases ht; exact ⟨_, ls, rfl, rfl, hl, h⟩
 | bool ht b => rw [hu] at ht; cases ht
 | int ht a hw => rw [hu] at ht; cases ht
 | str ht b _ => rw [hu] at ht; cases ht
 | sl ht _ _ _ => rw [hu] at ht; cases ht
theorem qrT {w : World} {r : Reach} {base : Nat} {t : TypeId} {fs : Array Field} {v : Value} (hu : P.underlying t = some (.struct fs)) (ho : Value.okWide P w r base t v) : ∃ cs, v = .agg cs := by
 unfold Value.okWide at ho
 rw [hu] at ho
 obtain ⟨cs, h, _⟩ := ho
 exact ⟨cs, h⟩
theorem qix {α : Type} {c : α → List PVal} {Q : α → Prop} : ∀ (ls : List (List PVal)), (∀ l ∈ ls, ∃ a, c a = l ∧ Q a) → ∃ zs : List α, zs.length = ls.length ∧ qaY c zs = ls.flatten ∧ ∀ a ∈ zs, Q a
 | [], _ => ⟨[], rfl, rfl, fun a h => by cases h⟩
 | l :: ls, h => by
  obtain ⟨a, ha, hq⟩ := h l (List.mem_cons_self ..)
  obtain ⟨zs, h1, h2, h3⟩ := qix ls fun m hm => h m (List.mem_cons_of_mem _ hm)
  refine ⟨a :: zs, by simp [h1], by simp only [qaY, List.flatten_cons, ha, h2], fun b hb => ?_⟩
  rcases List.mem_cons.1 hb with rfl | hb
  ·exact hq
  ·exact h3 b hb
theorem qtV {a : Int} (h : (Lit.int .i64 a).wf = true) : -9223372036854775808 ≤ a ∧ a ≤ 9223372036854775807 := by
 simp [Lit.wf, IntKind.min, IntKind.max, IntKind.signed, IntKind.bits] at h
 omega
theorem wf8 {a : Int} (h : (Lit.int .u8 a).wf = true) : 0 ≤ a ∧ a < 256 := by
 simp [Lit.wf, IntKind.min, IntKind.max, IntKind.signed, IntKind.bits] at h
 omega
theorem wf16 {a : Int} (h : (Lit.int .u16 a).wf = true) : 0 ≤ a ∧ a < 65536 := by
 simp [Lit.wf, IntKind.min, IntKind.max, IntKind.signed, IntKind.bits] at h
 omega
end
end Go.AI
namespace Go.AI.Tryz
open Go.Proofs
theorem qmF (ks : List Tm) : qaY Tm.cells ks = Tm.cellsL ks := by
 induction ks with
 | nil => rfl
 | cons a r ih => simp only [qaY, Tm.cellsL, ih]
theorem quP {α : Type} {l : List α} (h : l.length = 5) : ∃ a b c d e, l = [a, b, c, d, e] := by
 match l, h with
 | [a, b, c, d, e], _ => exact ⟨a, b, c, d, e, rfl⟩
theorem quQ {α : Type} {l : List α} (h : l.length = 3) : ∃ a b c, l = [a, b, c] := by
 match l, h with
 | [a, b, c], _ => exact ⟨a, b, c, rfl⟩
theorem qj1 {α : Type} {l : List α} (h : l.length = 2) : ∃ a b, l = [a, b] := by
 match l, h with
 | [a, b], _ => exact ⟨a, b, rfl⟩
theorem has_tm : ∀ (n : Nat) (pcs : List PVal), HasT Go.Proofs.Tryz.prog n 29 pcs → ∃ t : Tm, t.cells = pcs ∧ t.Ok
 | 0, pcs, h => by cases h
 | n + 1, pcs, h => by
  obtain ⟨m, ls, hm, rfl, hl, hf⟩ := h.inv_struct Go.Proofs.Tryz.underlying29
  cases hm
  obtain ⟨a, b, c, d, e, rfl⟩ := quP hl
  obtain ⟨k, rfl, wk⟩ := (hf 0 a _ rfl rfl).inv_int Go.Proofs.Tryz.underlying5
  obtain ⟨x, rfl, wx⟩ := (hf 1 b _ rfl rfl).inv_int Go.Proofs.Tryz.underlying3
  obtain ⟨y, rfl, wy⟩ := (hf 2 c _ rfl rfl).inv_int Go.Proofs.Tryz.underlying3
  obtain ⟨z, rfl, wz⟩ := (hf 3 d _ rfl rfl).inv_int Go.Proofs.Tryz.underlying3
  obtain ⟨m, rs, hm, rfl, hr, he⟩ := (hf 4 e _ rfl rfl).inv_sl Go.Proofs.Tryz.underlying27
  subst hm
  obtain ⟨ks, h1, h2, h3⟩ := qix (c := Tm.cells) (Q := Tm.Ok) rs fun l hl => has_tm m l (he l hl)
  refine ⟨.mk k x y z ks, ?_, .mk (wf8 wk) (qtV wx) (qtV wy) (qtV wz) (by rw [h1]; exact hr) h3⟩
  rw [qmF] at h2
  simp only [Tm.cells, h1, h2, List.flatten_cons, List.flatten_nil, List.cons_append, List.nil_append]
theorem qoI {n : Nat} {pcs : List PVal} (h : HasT Go.Proofs.Tryz.prog n 24 pcs) : ∃ b : Bs, b.cells = pcs ∧ b.Ok := by
 obtain ⟨m, ls, rfl, rfl, hl, hf⟩ := h.inv_struct Go.Proofs.Tryz.underlying24
 obtain ⟨a, b, rfl⟩ := qj1 hl
 obtain ⟨c, rfl⟩ := (hf 0 a _ rfl rfl).inv_bool Go.Proofs.Tryz.underlying4
 obtain ⟨x, rfl, wx⟩ := (hf 1 b _ rfl rfl).inv_int Go.Proofs.Tryz.underlying3
 exact ⟨⟨c, x⟩, rfl, qtV wx⟩
theorem qts {n : Nat} {pcs : List PVal} (h : HasT Go.Proofs.Tryz.prog n 79 pcs) : ∃ t : Ty, t.cells = pcs ∧ t.Ok := by
 obtain ⟨m, ls, rfl, rfl, hl, hf⟩ := h.inv_struct Go.Proofs.Tryz.underlying79
 obtain ⟨a, b, rfl⟩ := qj1 hl
 obtain ⟨m, rs, rfl, rfl, hr, he⟩ := (hf 0 a _ rfl rfl).inv_sl Go.Proofs.Tryz.underlying77
 obtain ⟨ps, h1, h2, h3⟩ := qix (c := Bs.cells) (Q := Bs.Ok) rs fun l hl => qoI (he l hl)
 obtain ⟨r, hrc, hro⟩ := qoI (hf 1 b _ rfl rfl)
 refine ⟨⟨ps, r⟩, ?_, by show ps.length ≤ _; rw [h1]; exact hr, h3, hro⟩
 subst hrc
 show [PVal.sl ps.length (qaY Bs.cells ps), .bool r.cell, .int .i64 r.n] = _
 rw [h1, h2]
 rfl
theorem has_ar {n : Nat} {pcs : List PVal} (h : HasT Go.Proofs.Tryz.prog n 26 pcs) : ∃ a : Ar, a.cells = pcs ∧ a.Ok := by
 obtain ⟨m, ls, rfl, rfl, hl, hf⟩ := h.inv_struct Go.Proofs.Tryz.underlying26
 obtain ⟨a, b, c, rfl⟩ := quQ hl
 obtain ⟨m, rs, rfl, rfl, hr, he⟩ := (hf 0 a _ rfl rfl).inv_sl Go.Proofs.Tryz.underlying22
 obtain ⟨ids, h1, h2, h3⟩ := qix (c := Ty.cells) (Q := Ty.Ok) rs fun l hl => qts (he l hl)
 obtain ⟨r, hrc, hro⟩ := qoI (hf 1 b _ rfl rfl)
 obtain ⟨j, rfl⟩ := (hf 2 c _ rfl rfl).inv_bool Go.Proofs.Tryz.underlying4
 refine ⟨⟨ids, r, j⟩, ?_, by show ids.length ≤ _; rw [h1]; exact hr, h3, hro⟩
 subst hrc
 show [PVal.sl ids.length (qaY Ty.cells ids), .bool r.cell, .int .i64 r.n, .bool j] = _
 rw [h1, h2]
 rfl
theorem qrU {P : Program} {w : World} {n : Nat} {t : TypeId} {cs : Array Value} {pcs : List PVal} (h : qml P w n t cs.toList pcs) : VR G00 w (.agg (pcs.map .p)) (.agg cs) := by
 obtain ⟨_, h1, h2, h3⟩ := h
 refine .agg _ _ (by rw [List.length_map, h1, Array.length_toList]) (fun v hv => h2 v (by simpa using hv)) fun i c v hc hv => ?_
 rw [List.getElem?_map, Option.map_eq_some_iff] at hc
 obtain ⟨p, hp, rfl⟩ := hc
 exact .p p v ((h3 i p v hp (by rw [Array.getElem?_toList]; exact hv)).mono fun ad u hu _ => ⟨hu, trivial⟩)
def qoJ : List TypeId := [3, 4, 5, 22, 24, 26, 27, 29, 77, 79]
theorem m26 : 26 ∈ qoJ := by simp [qoJ]
theorem m29 : 29 ∈ qoJ := by simp [qoJ]
theorem lawTs_ok : qko Go.Proofs.Tryz.prog qoJ = true := by kernel_rfl
theorem arg_told {P : Program} {ts : List TypeId} (hok : qko P ts = true) {t : TypeId} {fs : Array Field} (ht : t ∈ ts) (hu : P.underlying t = some (.struct fs)) {H : Type} {enc : TypeId × Value → H} {w : World} {base base' : Nat} {spare : Nat → Bool} {held : Bool} {r : Reach} {v : Value} {d : DataW H} {ps : List MemPlace} (ho : Value.okWide P w r base t v) (h : DataW.Trod enc P w base' spare held t v d ps) :
  ∃ n pcs, HasT P n t pcs ∧ VR G00 w (.agg (pcs.map .p)) v := by
 obtain ⟨cs, rfl⟩ := qrT hu ho
 obtain ⟨fuel, h⟩ := h
 obtain ⟨pcs, hp⟩ := qmm hok fuel t _ _ ht h
 exact ⟨fuel, pcs, hp.1, qrU hp⟩
end Go.AI.Tryz
