/- Part 6: what the functions of the program compute, function by function. No condition. -/
import Derived.Test.YtgecccghlgpmjaaGreatPe
set_option linter.unusedVariables false
set_option linter.unusedSimpArgs false
namespace Go.AI
theorem AllN.imp {P P' : Tm → Prop} (h : ∀ t, P t → P' t) {t : Tm} (a : AllN P t) : AllN P' t := by
 induction t using Tm.ind with
 | h k n m i ks ih => exact .mk (h _ a.hd) fun u hu => ih u hu (a.kid hu)
end Go.AI
namespace Go.AI.Tryz
abbrev Big (t : Tm) : Prop := t.i ≤ 9223372036854775807
section
variable {ι : Type} {bv : ι → AVal} {Cb : ι → qaJ → ASt → Prop} {Pb : Tm → Prop} {id : Int} {val : Tm}
def b1F (val : Tm) (t : Tm) : Tm := if t.k = 3 then val else if t.k = 4 then .az 1 (t.ks.headD .z) else t.ks.headD .z
theorem qu9 (hv : val.i = 0 ∧ val.ks = []) (h0 : 1 ≤ id) (hPb : ∀ t, Pb t → NmK id t ∧ Big t) (hS : ∀ p, Stab (Cb p)) (d : Nat)
  (hb : Ev fun n => ∀ p E s t, Cb p E s → Pb t → t.i = id → clv (qae CP n E) (bv p) [t.v] s = some ((b1F val t).v, s)) :
  Ev fun n => ∀ l6 l9 p E s t l, qak E s l6 = some [i64 id] → qak E s l9 = some [bv p] → Cb p E s → t.size ≤ d → AllN Pb t → cl (qae CP n E) 204 [t.v, i64 l, .ptr l6 0, .ptr l9 0] s = some (.tuple [(qcT id (w1F id val t)).v, bl true], s) := by
 refine Ev.succ ((hb.and (Ev.ge (d + 3))).mono fun n ⟨hb, hn⟩ l6 l9 p E s t l h6 h9 hc hs hA => ?_)
 rw [qbK]
 have h6' : qak (qae CP n (s.heap ++ E)).E { s with heap := [], toks := [] } l6 = some [i64 id] := by rw [qaQ, qdQ]; exact h6
 have h9' : qak (qae CP n (s.heap ++ E)).E { s with heap := [], toks := [] } l9 = some [bv p] := by rw [qaQ, qdQ]; exact h9
 have hb' := fun t => hb p (s.heap ++ E) { s with heap := [], toks := [] } t (hS p E s hc)
 suffices hrun : s204 (qae CP n (s.heap ++ E)) n t.v (i64 l) (.ptr l6 0) (.ptr l9 0) { s with heap := [], toks := [] } = some (.tuple [(qcT id (w1F id val t)).v, bl true], { s with heap := [], toks := [] }) from
  qgr (cf := cf204) (np := 4) (args' := [t.v, i64 l, .ptr l6 0, .ptr l9 0]) (by kernel_rfl) (by kernel_rfl) rfl (by simp only [List.all_cons, qam]; rfl) (by simp only [List.map_cons, qao]; rfl) ((s204_eq _ _ _ _ _ _ _).trans hrun) (qcZ _ _) (qdg _ _ _)
 generalize ({ s with heap := [], toks := [] } : ASt) = s0 at h6' h9' hb' ⊢
 generalize s.heap ++ E = E0 at h6' h9' hb' ⊢
 unfold s204
 simp only [qal, Option.bind_some]
 unfold s204_1
 generalize hF : (fun (h9 : List AVal → List AVal → ASt → Res) (c6 c7 : List AVal) (s8 : ASt) => _) = F
 have hex : ∀ (t : Tm) (k : Nat), t.i ≠ id → Big t → lp (fun _ _ _ => none) F (k + 1) t.c [u8 0, i64 0, i64 0, i64 0, .sl 0 [] .full] s0 = some (.tuple [(qcT id t).v, bl true], s0) := by
  intro t k hne hbig
  rw [qbj]
  generalize lp _ F k = L
  subst hF
  unfold s204_0 qcT
  by_cases hgt : id < t.i
  ·have hw : qa7 .i64 (t.i - 1) = t.i - 1 := qbS (by omega) (by omega)
   have ho : ∀ z : Int, over t.c 3 [i64 z] = some (Tm.mk t.k t.n t.m z t.ks).c := fun _ => rfl
   simp only [hne, hgt, ldP h6', qcm, hw, ho, qbd, if_true, qal, qaZ, qkS, qaC, qag, qaq, qa4, qbC, decide_true, decide_false, qaa, cond_true, cond_false, qav, Option.map_some, Option.bind_some]
  ·simp only [hne, hgt, ldP h6', qcm, if_false, qtz, qal, qaZ, qkS, qaC, qag, qaq, qa4, qbC, decide_false, qaa, cond_false, qav, Option.map_some, Option.bind_some]
 have key : ∀ (d : Nat) (t : Tm) (k : Nat), t.size ≤ d → d + 1 < k → AllN Pb t → lp (fun _ _ _ => none) F k t.c [u8 0, i64 0, i64 0, i64 0, .sl 0 [] .full] s0 = some (.tuple [(qcT id (w1F id val t)).v, bl true], s0) := by
  intro d
  induction d with
  | zero => intro t k h; have := Tm.size_pos t; omega
  | succ d ih =>
   intro t k hs hk hA
   obtain ⟨k, rfl⟩ : ∃ m, k = m + 2 := ⟨k - 2, by omega⟩
   by_cases hi : t.i = id
   ·have hcl := hb' t hA.hd hi
    have hstep : lp (fun _ _ _ => none) F (k + 1) (b1F val t).c [u8 0, i64 0, i64 0, i64 0, .sl 0 [] .full] s0 = some (.tuple [(qcT id (w1F id val t)).v, bl true], s0) := by
     rw [qow, if_pos hi]
     unfold b1F
     rcases (hPb t hA.hd).1 hi with ⟨hk3, hu⟩ | ⟨hk4, _, _, u, hu⟩ | ⟨hk18, u, hu⟩
     ·rw [if_pos hk3, if_pos hk3]
      exact hex val k (by omega) (by show val.i ≤ _; omega)
     ·rw [if_neg (by omega), if_pos hk4, if_neg (by omega), if_pos hk4]
      exact hex (.az 1 (t.ks.headD .z)) k (by show (0 : Int) ≠ id; omega) (by show (0 : Int) ≤ _; omega)
     ·rw [if_neg (by omega), if_neg (by omega), if_neg (by omega), if_neg (by omega), if_pos hk18, hu]
      have hm : u ∈ t.ks := by rw [hu]; exact List.mem_cons_self ..
      have hlt := Tm.sizeL_mem hm
      have ht := Tm.size_ks t
      exact ih u (k + 1) (by omega) (by omega) (hA.kid hm)
    rw [qbj]
    generalize lp _ F (k + 1) = L at hstep ⊢
    subst hF
    simp only [hi, ldP h6', ldP h9', qcm, hcl, qal, qaZ, qkS, qoi, qag, qaq, qa4, qbC, decide_true, qaa, cond_true, qav, Option.map_some, Option.bind_some, qab]
    have hx : ldL [bv p] 0 none = some (bv p) := rfl
    exact hstep
   ·rw [qow, if_neg hi]
    exact hex t (k + 1) hi (hPb t hA.hd).2
 exact key d t n hs (by omega) hA
theorem qgL (hv : val.i = 0 ∧ val.ks = [] ∧ val.size = 1) (h0 : 1 ≤ id) (hPb : ∀ t, Pb t → NmK id t ∧ Big t) (hS : ∀ p, Stab (Cb p)) (hN : ∀ p E s o, Cb p E s → Cb p E (qaf s o)) (hH : ∀ p E s s', Cb p E s → s'.heap = s.heap → s'.next = s.next → Cb p E s')
  (ha : ∀ p, qaK (bv p) = true) (hw : ∀ p, qbg (bv p) = true) (hce : ∀ p, AVal.cells none (bv p) = some [bv p]) (he : ∀ p, qaA (bv p) = bv p)
  (t : Tm) (hs : t.size ≤ 900000) (hA : AllN Pb t)
  (hb : Ev fun n => ∀ p E s t, Cb p E s → Pb t → t.i = id → clv (qae CP n E) (bv p) [t.v] s = some ((b1F val t).v, s)) :
  Ev fun n => ∀ p E s, Cb p E s → cl (qae CP n E) 188 [t.v, i64 id, bv p] s = some ((woF id val t).v, s) := by
 have hNmA : ∀ t, AllN Pb t → AllN (NmK id) t := fun t h => h.imp fun t h => (hPb t h).1
 have hmap := qdw (κ := Nat × Nat × ι) (R := fun q (_ : Unit) E s => qak E s q.1 = some [i64 id] ∧ qak E s q.2.1 = some [bv q.2.2] ∧ Cb q.2.2 E s) (fv := fun q => .func 204 [] [.ptr q.1 0, .ptr q.2.1 0]) (by_ := fun x t l => (x, qcT id (w1F id val t), true)) (Ad := AllN Pb)
  (fun q x E s s' ⟨r1, r2, r3⟩ e1 e2 => ⟨by rw [qdS e1]; exact r1, by rw [qdS e1]; exact r2, hH _ E s s' r3 e1 e2⟩) (fun _ => rfl) (fun _ => rfl)
  (fun x t l hA _ => ⟨by
    have := qoz (id := id) (val := val) hv.2.2 t.size t (Nat.le_refl _) (hNmA t hA)
    simp only [qcT, Tm.size_ks, Tm.ks_mk] at this ⊢
    exact this, fun u hu => qoA hv.2.1 Pb t.size t (Nat.le_refl _) (hNmA t hA) hA u (by simpa only [qcT, Tm.ks_mk] using hu)⟩) t.size
  (((qu9 ⟨hv.1, hv.2.1⟩ h0 hPb hS t.size hb).and (Ev.ge 1)).mono fun n ⟨h, hn⟩ q x E s t l h1 h2 h3 h4 ⟨r1, r2, r3⟩ => ⟨s, by
    rw [qg8 CP hn]
    exact h q.1 q.2.1 q.2.2 E s t l r1 r2 r3 h1 h2, ⟨r1, r2, r3⟩, TF.refl s⟩)
 refine Ev.succ (hmap.mono fun n h p E s hc => ?_)
 rw [qbK]
 let s0 : ASt := { s with heap := [], toks := [] }
 have hc0 := hS p E s hc
 have hc1 := hN p _ _ (.cells [bv p]) (hN p _ _ (.cells [i64 id]) hc0)
 obtain ⟨s', e1, _, _⟩ := h (s0.next, (qaf s0 (.cells [i64 id])).next, p) () (s.heap ++ E) (qaf (qaf s0 (.cells [i64 id])) (.cells [bv p])) t 0 (Nat.le_refl _) hA (by omega) (by omega) ⟨qc1 _ _ _ _, qaI _ _ _, hc1⟩
 have e := qoy (id := id) (val := val) ⟨hv.1, hv.2.1⟩ h0 t.size t 0 (Nat.le_refl _) (hNmA t hA)
 rw [e] at e1
 refine qgr (cf := cf188) (np := 3) (args' := [t.v, i64 id, bv p]) (v := (woF id val t).v) (s' := s') (by kernel_rfl) (by kernel_rfl) rfl (by simp only [List.all_cons, qam, hw]; rfl) (by simp only [List.map_cons, qao, he]; rfl) ((s188_eq _ _ _ _ _ _).trans ?_) (qao _) (qaT _ _)
 have haw : [bv p].all qaK = true := by simp only [List.all_cons, ha, List.all_nil, Bool.and_self]
 have haw2 : [i64 id].all qaK = true := rfl
 have e2 : cl (qae CP n (s.heap ++ E)) 108 [t.v, i64 0, .func 204 [] [.ptr s.next 0, .ptr (qaf { s with heap := [], toks := [] } (.cells [i64 id])).next 0]] (qaf (qaf { s with heap := [], toks := [] } (.cells [i64 id])) (.cells [bv p])) = some ((woF id val t).v, s') := e1
 unfold s188
 simp only [hce, haw, haw2, qbd, e2, qal, qaZ, qaC, Option.bind_some, qab, qaS, qba, cnd]
def clR (x : Sc) (ok : Nm → Bool) (val : Tm) (t : Tm) : Option Tm := if t.k = 10 then (match t.ks with | [u] => if ok (qfx (Int.ofNat x.ids.length + 1) u) then some (woF (Int.ofNat x.ids.length + 1) val u) else none | _ => none) else none
theorem qr2 (x : Vw) (hl : x.sz.length ≤ 1000000) : PC CP 187 [x.v] (i64 (Int.ofNat x.sz.length + 1)) := by
 refine PC.of2 (cf := cf187) (np := 1) (args' := [x.v]) (by kernel_rfl) (by kernel_rfl) rfl (by first | rfl | (simp only [List.all_cons, qam, qcy]; rfl)) (by first | rfl | (simp only [List.map_cons, qao, qcz]; rfl)) (fun lo => by first | rfl | exact qaT lo _ | exact qbr lo _ | exact qdg lo _ _) (Ev.mono (ev0) fun N _ E s => ⟨i64 (Int.ofNat x.sz.length + 1), s, (s187_eq _ _ _ _).trans ?_, (by first | rfl | exact qao _ | exact qbe _ | exact qcZ _ _)⟩)
 have hw : qa7 .i64 (Int.ofNat x.sz.length + 1) = Int.ofNat x.sz.length + 1 := qbS (by simp only [Int.ofNat_eq_natCast]; omega) (by simp only [Int.ofNat_eq_natCast]; omega)
 unfold s187
 simp only [hw, qax, qsy, qag, qaG, Option.map_some, Option.bind_some, qc8]
theorem qfh (x : Sc) (t : Tm) (g : Gd x t) (hs : t.size ≤ 900000) (f : Nat) (ok : Nm → Bool) (hok : ∀ y : Nm, PC CP f [y.v] (bl (ok y)))
  (hw : ∀ p, qbg (bv p) = true) (he : ∀ p, qaA (bv p) = bv p) (hS : ∀ p, Stab (Cb p))
  (hwo : ∀ u, t.k = 10 → t.ks = [u] → ok (qfx (Int.ofNat x.ids.length + 1) u) = true → Ev fun n => ∀ p E s, Cb p E s → cl (qae CP n E) 188 [u.v, i64 (Int.ofNat x.ids.length + 1), bv p] s = some ((woF (Int.ofNat x.ids.length + 1) val u).v, s)) :
  Ev fun n => ∀ p E s, Cb p E s → cl (qae CP n E) 148 [(vw x t).v, .p (.func f [] []), bv p] s = some (qgR (clR x ok val t), s) := by
 suffices Ev fun n => ∀ p E s, Cb p E s → ∃ s', s148 (qae CP n E) n (vw x t).v (.p (.func f [] [])) (bv p) s = some (qgR (clR x ok val t), s') by
  refine Ev.succ (this.mono fun n h p E s hc => ?_)
  obtain ⟨s', e⟩ := h p _ _ (hS p E s hc)
  rw [qbK]
  exact qgr (cf := cf148) (np := 3) (args' := [(vw x t).v, .p (.func f [] []), bv p]) (by kernel_rfl) (by kernel_rfl) rfl (by simp only [List.all_cons, qcy, hw]; rfl) (by simp only [List.map_cons, qcz, he]; rfl) ((s148_eq _ _ _ _ _ _).trans e) (qbe _) (qbr _ _)
 have hsl : (vw x t).sz.length = x.ids.length := by simp only [vw, List.length_map]
 by_cases hk : t.k = 10
 ·cases g.sh with
  | new n0 m0 u =>
   have su : u.size < (Tm.new n0 m0 u).size := qa3 (by simp [Tm.ks])
   have e : clR x ok val (.new n0 m0 u) = if ok (qfx (Int.ofNat x.ids.length + 1) u) then some (woF (Int.ofNat x.ids.length + 1) val u) else none := rfl
   rw [e]
   clear e
   generalize hid : (Int.ofNat x.ids.length + 1 : Int) = id at hwo ⊢
   have hcell : PC CP 187 [(vw x (.new n0 m0 u)).v] (i64 id) := by
    have := qr2 (vw x (.new n0 m0 u)) (by rw [hsl]; exact g.l)
    rw [hsl, hid] at this
    exact this
   have hwo' := hwo u rfl rfl
   have hokn := hok (qfx id u)
   generalize ok (qfx id u) = q at hwo' hokn ⊢
   cases q with
   | false =>
    refine (((qcY (vw x (.new n0 m0 u)) 10).and (hcell.and ((qov id u (by omega)).and (hokn.and (nothing_c.and (Ev.ge 1)))))).mono fun N ⟨h1, h2, h3, h4, h5, hn⟩ p E s hc => ⟨s, ?_⟩)
    obtain ⟨i0, l0⟩ := qcX (n := N) (E := E) (l := [u]) (u := u) rfl
    unfold s148 s148_0
    simp only [h1, i0, l0, h2, h3, qeO CP hn, h4, h5, Bool.false_eq_true, if_false, qal, qaZ, qaC, qax, qbR, qbU, vwt, decide_true, Bool.not_true, Bool.not_false, qaa, cond_true, cond_false, qav, Option.bind_some, qab, qai, qar, qas, qau, Tm.k_mk, Tm.ks_mk, qay, Option.getD_none, Option.isSome_none]
   | true =>
    refine (((qcY (vw x (.new n0 m0 u)) 10).and (hcell.and ((qov id u (by omega)).and (hokn.and ((hwo' rfl).and (Ev.ge 1)))))).mono fun N ⟨h1, h2, h3, h4, h5, hn⟩ p E s hc => ⟨s, ?_⟩)
    obtain ⟨i0, l0⟩ := qcX (n := N) (E := E) (l := [u]) (u := u) rfl
    have h5' := h5 p E s hc
    unfold s148 s148_0
    simp only [h1, i0, l0, h2, h3, qeO CP hn, h4, h5', if_true, qal, qaZ, qaC, qax, qbR, qbU, vwt, decide_true, Bool.not_true, qaa, cond_true, cond_false, qav, Option.bind_some, qab, qau, Tm.k_mk, Tm.ks_mk, qay, Option.getD_some, Option.isSome_some]
  | _ => simp only [Tm.k_mk] at hk; omega
 ·have e : clR x ok val t = none := by unfold clR; rw [if_neg hk]
  rw [e]
  refine ((qcY (vw x t) 10).and nothing_c).mono fun N ⟨h1, h5⟩ p E s hc => ⟨s, ?_⟩
  unfold s148 s148_0
  simp only [h1, h5, hk, qal, qaZ, qaC, qax, qbR, qbU, vwt, decide_false, Bool.not_false, qaa, cond_true, qav, Option.bind_some, qab, qai, qar, qas, qau, qay, Option.getD_none, Option.isSome_none]
end
end Go.AI.Tryz
namespace Go.AI
theorem Sc.get_with {x : Sc} {y : Se} {i : Int} {e : Se} (h : x.get i = some e) : (x.with y).get i = some e := by
 obtain ⟨j, hi, hj⟩ := Sc.get_inv h
 have hjl := (List.getElem?_eq_some_iff.1 hj).1
 unfold Sc.get Sc.with
 rw [if_neg (by simp only [Int.ofNat_eq_natCast] at hi; omega)]
 have : (i - 1).toNat = j := by simp only [Int.ofNat_eq_natCast] at hi; omega
 rw [this]
 simp only [List.getElem?_append_left hjl]
 exact hj
theorem Sc.get_last {x : Sc} {y : Se} : (x.with y).get (Int.ofNat x.ids.length + 1) = some y := by
 unfold Sc.get Sc.with
 rw [if_neg (by simp only [Int.ofNat_eq_natCast]; omega)]
 have : (Int.ofNat x.ids.length + 1 - 1).toNat = x.ids.length := by simp only [Int.ofNat_eq_natCast]; omega
 rw [this]
 simp only [List.getElem?_concat_length]
theorem qdy {is : Tm → Int → Bool} (hl : ∀ t l l', is t l = is t l') {t : Tm} : ∀ {l : Int}, t.any is l = false → AllN (fun t => is t 0 = false) t := by
 induction t using Tm.ind with
 | h k n m i ks ih =>
  intro l h
  rw [Tm.any_eq, Bool.or_eq_false_iff] at h
  refine .mk (by rw [hl _ 0 l]; exact h.1) ?_
  have hk : ∀ (r : List Tm) (j : Nat), (∀ u ∈ r, u ∈ ks) → Tm.anyK is (decide ((Tm.mk k n m i ks).k = 11)) l j r = false → ∀ u ∈ r, AllN (fun t => is t 0 = false) u := by
   intro r
   induction r with
   | nil => intro j _ _ u hu; cases hu
   | cons v r ih2 =>
    intro j hm ha u hu
    simp only [Tm.anyK, Bool.or_eq_false_iff] at ha
    rcases List.mem_cons.1 hu with rfl | hu
    ·exact ih u (hm u (List.mem_cons_self ..)) ha.1
    ·exact ih2 (j + 1) (fun w hw => hm w (List.mem_cons_of_mem _ hw)) ha.2 u hu
  exact hk ks 0 (fun _ h => h) h.2
theorem AllN.and {P Q : Tm → Prop} {t : Tm} (h : AllN P t) (k : AllN Q t) : AllN (fun t => P t ∧ Q t) t := by
 induction t using Tm.ind with
 | h _ _ _ _ ks ih => exact .mk ⟨h.hd, k.hd⟩ fun u hu => ih u hu (h.kid hu) (k.kid hu)
end Go.AI
namespace Go.AI.Tryz
def qmN (id : Int) (t : Tm) : Prop := (t.i = id → t.k = 3 ∨ t.k = 4 ∨ t.k = 18 ∨ t.k = 16) ∧ Sh t ∧ Big t
theorem Tm.Ok.big {t : Tm} (h : t.Ok) : Big t := by cases h with | mk _ _ _ hi _ _ => exact hi.2
theorem qfi {f : Tm → Bs → Bool} : ∀ {ks : List Tm} {ps : List Bs}, qbz f ks ps = true → ∀ u ∈ ks, ∃ b ∈ ps, f u b = true
 | [], _, _, u, hu => by cases hu
 | _ :: _, [], h, _, _ => by simp [qbz] at h
 | k :: ks, b :: ps, h, u, hu => by
  simp only [qbz, Bool.and_eq_true] at h
  rcases List.mem_cons.1 hu with rfl | hu
  ·exact ⟨b, List.mem_cons_self .., h.1⟩
  ·obtain ⟨c, hc, hf⟩ := qfi h.2 u hu
   exact ⟨c, List.mem_cons_of_mem _ hc, hf⟩
theorem qeU {x : Sc} {t : Tm} {b : Bs} (h : qdC szF x t b = true) : (szF x t = (b.n, true)) ∨ (∃ i e, t = .cel i ∧ x.get i = some e ∧ e.ty.res.cell = true ∧ e.ty.res.n = b.n ∧ b.cell = true) ∨ (∃ u w, t = .obj u w ∧ szF x u = (b.n, true) ∧ szF (x.with ⟨⟨[], ⟨false, b.n⟩⟩, true⟩) w = (1, true) ∧ b.cell = true) := by
 unfold qdC at h
 split at h
 ·rename_i hc
  rw [Bool.and_eq_true] at h
  obtain ⟨hok, h⟩ := h
  have hsh := qol hok
  split at h
  ·rename_i h16
   cases hsh with
   | cel i =>
    simp only [Tm.i_mk] at h
    cases he : x.get i with
    | none => rw [he] at h; cases h
    | some e =>
     rw [he] at h
     simp only [Bool.and_eq_true, decide_eq_true_eq] at h
     exact .inr (.inl ⟨i, e, rfl, he, h.1, h.2, hc⟩)
   | _ => simp only [Tm.k_mk] at h16; omega
  ·split at h
   ·rename_i h17
    cases hsh with
    | obj u w =>
     simp only [Tm.ks_mk, Bool.and_eq_true, decide_eq_true_eq] at h
     exact .inr (.inr ⟨u, w, rfl, Prod.ext h.1.2 h.1.1, Prod.ext h.2.2 h.2.1, hc⟩)
    | _ => simp only [Tm.k_mk] at h17; omega
   ·cases h
 ·simp only [Bool.and_eq_true, decide_eq_true_eq] at h
  exact .inl (Prod.ext h.2 h.1)
def Cl (x : Sc) (id : Int) : Prop := ∃ e, x.get id = some e ∧ e.ty.res.cell = true ∧ e.arg = false
theorem Cl.with {x : Sc} {id : Int} (h : Cl x id) (y : Se) : Cl (x.with y) id := by
 obtain ⟨e, h1, h2⟩ := h
 exact ⟨e, Sc.get_with h1, h2⟩
theorem Cl.size {x : Sc} {id n : Int} (h : Cl x id) : Cl { x with size := n } id := h
theorem ql2 {id : Int} (h0 : 1 ≤ id) : ∀ (d : Nat) (t : Tm) (x : Sc), t.size ≤ d → t.Ok → Cl x id → ((szF x t).2 = true ∨ ∃ b, qdC szF x t b = true) → AllN (qmN id) t
 | 0, t, _, h, _, _, _ => by have := Tm.size_pos t; omega
 | d + 1, t, x, hd, hok, hc, h => by
  have hb := Tm.Ok.big hok
  have IH : ∀ u ∈ t.ks, ∀ y, Cl y id → ((szF y u).2 = true ∨ ∃ b, qdC szF y u b = true) → AllN (qmN id) u := fun u hu y hy hs => ql2 h0 d u y (by have := qa3 hu; omega) (hok.kids u hu) hy hs
  have harg : ∀ b, qdC szF x t b = true → (szF x t).2 = true ∨ (∃ i, t = .cel i) ∨ (∃ u w, t = .obj u w ∧ szF x u = (b.n, true) ∧ szF (x.with ⟨⟨[], ⟨false, b.n⟩⟩, true⟩) w = (1, true)) := by
   intro b hb
   rcases qeU hb with h | ⟨i, e, h, _⟩ | ⟨u, w, h1, h2, h3, _⟩
   ·exact .inl (by rw [h])
   ·exact .inr (.inl ⟨i, h⟩)
   ·exact .inr (.inr ⟨u, w, h1, h2, h3⟩)
  have hcase : (szF x t).2 = true ∨ (∃ i, t = .cel i) ∨ (∃ u w, ∃ b : Bs, t = .obj u w ∧ szF x u = (b.n, true) ∧ szF (x.with ⟨⟨[], ⟨false, b.n⟩⟩, true⟩) w = (1, true)) := by
   rcases h with h | ⟨b, h⟩
   ·exact .inl h
   ·rcases harg b h with h | h | ⟨u, w, h⟩
    ·exact .inl h
    ·exact .inr (.inl h)
    ·exact .inr (.inr ⟨u, w, b, h⟩)
  obtain ⟨e, he, hcl, hna⟩ := hc
  have hc : Cl x id := ⟨e, he, hcl, hna⟩
  rcases hcase with h | ⟨i, rfl⟩ | ⟨u, w, b, rfl, h1, h2⟩
  ·have hsh := qdu h
   cases hsh with
   | num n m => exact .mk ⟨fun hi => by simp only [Tm.i_mk] at hi; omega, .num .., hb⟩ fun u hu => by cases hu
   | use i ks =>
    rw [qgF] at h
    refine .mk ⟨fun hi => ?_, .use .., hb⟩ fun u hu => ?_
    ·simp only [Tm.i_mk] at hi
     subst hi
     rw [he] at h
     simp [hcl] at h
    ·simp only [Bool.and_eq_true] at h
     obtain ⟨b, _, hf⟩ := qfi h.2.2.2 u hu
     exact IH u hu x hc (.inr ⟨b, hf⟩)
   | get i => exact .mk ⟨fun hi => .inl rfl, .get .., hb⟩ fun u hu => by cases hu
   | put i u =>
    rw [qeP, Bool.and_eq_true, is2_iff] at h
    exact .mk ⟨fun hi => .inr (.inl rfl), .put .., hb⟩ fun v hv => by
     simp only [Tm.ks_mk, List.mem_singleton] at hv
     subst hv
     exact IH v (by simp [Tm.ks]) x hc (.inl (by rw [h.2]))
   | op n m u w =>
    rw [qeQ] at h
    have hin : is2 (szF x u) m = true ∧ is2 (szF x w) m = true := by
     split at h
     ·simp only [Bool.and_eq_true] at h ⊢; exact h.2
     ·split at h
      ·simp only [Bool.and_eq_true] at h ⊢; exact h.2
      ·cases h
    rw [is2_iff, is2_iff] at hin
    exact .mk ⟨fun hi => by simp only [Tm.i_mk] at hi; omega, .op .., hb⟩ fun v hv => by
     simp only [Tm.ks_mk, List.mem_cons, List.not_mem_nil, or_false] at hv
     rcases hv with rfl | rfl
     ·exact IH v (by simp [Tm.ks]) x hc (.inl (by rw [hin.1]))
     ·exact IH v (by simp [Tm.ks]) x hc (.inl (by rw [hin.2]))
   | az n u =>
    rw [qeR, Bool.and_eq_true] at h
    exact .mk ⟨fun hi => by simp only [Tm.i_mk] at hi; omega, .az .., hb⟩ fun v hv => by
     simp only [Tm.ks_mk, List.mem_singleton] at hv
     subst hv
     exact IH v (by simp [Tm.ks]) x hc (.inl h.1)
   | seq u w =>
    rw [qbQ, Bool.and_eq_true, is2_iff] at h
    exact .mk ⟨fun hi => by simp only [Tm.i_mk] at hi; omega, .seq .., hb⟩ fun v hv => by
     simp only [Tm.ks_mk, List.mem_cons, List.not_mem_nil, or_false] at hv
     rcases hv with rfl | rfl
     ·exact IH v (by simp [Tm.ks]) x hc (.inl (by rw [h.2]))
     ·exact IH v (by simp [Tm.ks]) x hc (.inl h.1)
   | ite c u w =>
    rw [qci, Bool.and_eq_true, Bool.and_eq_true, is2_iff] at h
    exact .mk ⟨fun hi => by simp only [Tm.i_mk] at hi; omega, .ite .., hb⟩ fun v hv => by
     simp only [Tm.ks_mk, List.mem_cons, List.not_mem_nil, or_false] at hv
     rcases hv with rfl | rfl | rfl
     ·exact IH v (by simp [Tm.ks]) x hc (.inl h.2)
     ·exact IH v (by simp [Tm.ks]) x hc (.inl h.1.1)
     ·exact IH v (by simp [Tm.ks]) x hc (.inl (by rw [h.1.2]))
   | whl u w =>
    rw [qft, Bool.and_eq_true, is2_iff] at h
    exact .mk ⟨fun hi => by simp only [Tm.i_mk] at hi; omega, .whl .., hb⟩ fun v hv => by
     simp only [Tm.ks_mk, List.mem_cons, List.not_mem_nil, or_false] at hv
     rcases hv with rfl | rfl
     ·exact IH v (by simp [Tm.ks]) x hc (.inl h.1)
     ·exact IH v (by simp [Tm.ks]) x hc (.inl (by rw [h.2]))
   | new n m u =>
    rw [qeS, Bool.and_eq_true] at h
    exact .mk ⟨fun hi => by simp only [Tm.i_mk] at hi; omega, .new .., hb⟩ fun v hv => by
     simp only [Tm.ks_mk, List.mem_singleton] at hv
     subst hv
     exact IH v (by simp [Tm.ks]) _ (hc.with _) (.inl h.1)
   | lbl u w =>
    rw [qd9, Bool.and_eq_true, is2_iff] at h
    exact .mk ⟨fun hi => by simp only [Tm.i_mk] at hi; omega, .lbl .., hb⟩ fun v hv => by
     simp only [Tm.ks_mk, List.mem_cons, List.not_mem_nil, or_false] at hv
     rcases hv with rfl | rfl
     ·exact IH v (by simp [Tm.ks]) { x with size := x.size + 1 } hc (.inl h.1)
     ·exact IH v (by simp [Tm.ks]) x hc (.inl (by rw [h.2]))
   | jmp n => exact .mk ⟨fun hi => by simp only [Tm.i_mk] at hi; omega, .jmp .., hb⟩ fun u hu => by cases hu
   | cho u w =>
    rw [qea, Bool.and_eq_true, is2_iff] at h
    exact .mk ⟨fun hi => by simp only [Tm.i_mk] at hi; omega, .cho .., hb⟩ fun v hv => by
     simp only [Tm.ks_mk, List.mem_cons, List.not_mem_nil, or_false] at hv
     rcases hv with rfl | rfl
     ·exact IH v (by simp [Tm.ks]) x hc (.inl h.1)
     ·exact IH v (by simp [Tm.ks]) x hc (.inl (by rw [h.2]))
   | hang => exact .mk ⟨fun hi => by simp only [Tm.i_mk] at hi; omega, .hang, hb⟩ fun u hu => by cases hu
   | val i =>
    rw [qhF] at h
    refine .mk ⟨fun hi => ?_, .val .., hb⟩ fun u hu => by cases hu
    simp only [Tm.i_mk] at hi
    subst hi
    rw [he] at h
    simp [hna] at h
   | cel i => rw [qfu] at h; cases h
   | obj u w => rw [qeb] at h; cases h
   | ntc n i u =>
    rw [qec, Bool.and_eq_true] at h
    exact .mk ⟨fun hi => .inr (.inr (.inl rfl)), .ntc .., hb⟩ fun v hv => by
     simp only [Tm.ks_mk, List.mem_singleton] at hv
     subst hv
     exact IH v (by simp [Tm.ks]) x hc (.inl h.1)
  ·exact .mk ⟨fun hi => .inr (.inr (.inr rfl)), .cel .., hb⟩ fun u hu => by cases hu
  ·exact .mk ⟨fun hi => by simp only [Tm.i_mk] at hi; omega, .obj .., hb⟩ fun v hv => by
    simp only [Tm.ks_mk, List.mem_cons, List.not_mem_nil, or_false] at hv
    rcases hv with rfl | rfl
    ·exact IH v (by simp [Tm.ks]) x hc (.inl (by rw [h1]))
    ·exact IH v (by simp [Tm.ks]) _ (hc.with _) (.inl (by rw [h2]))
end Go.AI.Tryz
namespace Go.AI.Tryz
def okU (y : Nm) : Bool := !y.a && (!y.p && !y.h)
def qr3 (y : Nm) : Bool := y.a && (!y.p && !y.h)
def qr4 (y : Nm) : Bool := !y.a && (y.p && !y.h)
theorem qva (y : Nm) : PC CP 149 [y.v] (bl (okU y)) := by
 refine PC.of2 (cf := cf149) (np := 1) (args' := [y.v]) (by kernel_rfl) (by kernel_rfl) rfl (by first | rfl | (simp only [List.all_cons, qam, qcy]; rfl)) (by first | rfl | (simp only [List.map_cons, qao, qcz]; rfl)) (fun lo => by first | rfl | exact qaT lo _ | exact qbr lo _ | exact qdg lo _ _) (Ev.mono (ev0) fun N _ E s => ⟨bl (okU y), s, (s149_eq _ _ _ _).trans ?_, (by first | rfl | exact qao _ | exact qbe _ | exact qcZ _ _)⟩)
 obtain ⟨a, p, h⟩ := y
 cases a <;> cases p <;> cases h <;> rfl
theorem qtD (y : Nm) : PC CP 150 [y.v] (bl (qr3 y)) := by
 refine PC.of2 (cf := cf150) (np := 1) (args' := [y.v]) (by kernel_rfl) (by kernel_rfl) rfl (by first | rfl | (simp only [List.all_cons, qam, qcy]; rfl)) (by first | rfl | (simp only [List.map_cons, qao, qcz]; rfl)) (fun lo => by first | rfl | exact qaT lo _ | exact qbr lo _ | exact qdg lo _ _) (Ev.mono (ev0) fun N _ E s => ⟨bl (qr3 y), s, (s150_eq _ _ _ _).trans ?_, (by first | rfl | exact qao _ | exact qbe _ | exact qcZ _ _)⟩)
 obtain ⟨a, p, h⟩ := y
 cases a <;> cases p <;> cases h <;> rfl
theorem qtE (y : Nm) : PC CP 153 [y.v] (bl (qr4 y)) := by
 refine PC.of2 (cf := cf153) (np := 1) (args' := [y.v]) (by kernel_rfl) (by kernel_rfl) rfl (by first | rfl | (simp only [List.all_cons, qam, qcy]; rfl)) (by first | rfl | (simp only [List.map_cons, qao, qcz]; rfl)) (fun lo => by first | rfl | exact qaT lo _ | exact qbr lo _ | exact qdg lo _ _) (Ev.mono (ev0) fun N _ E s => ⟨bl (qr4 y), s, (s153_eq _ _ _ _).trans ?_, (by first | rfl | exact qao _ | exact qbe _ | exact qcZ _ _)⟩)
 obtain ⟨a, p, h⟩ := y
 cases a <;> cases p <;> cases h <;> rfl
theorem of_u : UC 136 (fun p : Int × Int × Int × List Tm => [u8 p.1, i64 p.2.1, i64 p.2.2.1, kv p.2.2.2]) (fun _ _ _ => True) (fun p => (Tm.mk p.1 p.2.1 p.2.2.1 0 p.2.2.2).v) := by
 refine UC.of (cf := cf136) (np := 4) (by kernel_rfl) (by kernel_rfl) (fun _ => rfl) (fun _ => rfl) (fun _ => rfl) (fun _ => Stab.pure _) (fun p lo => qaT lo _) (Ev.of fun n p E s _ => ⟨(Tm.mk p.1 p.2.1 p.2.2.1 0 p.2.2.2).v, s, (s136_eq _ _ _ _ _ _ _).trans ?_, qao _⟩)
 obtain ⟨k, n, m, l⟩ := p
 unfold s136
 have h : bd [u8 0, i64 0, i64 0, i64 0, .sl 0 [] .full] [(0, none, .c (u8 k)), (1, none, .c (i64 n)), (2, none, .c (i64 m)), (4, none, .c (kv l))] = some (Tm.mk k n m 0 l).v := by rw [Tm.v_eq]; rfl
 simp only [h, qal, qaZ, qaC, Option.bind_some]
theorem one_u : UC 142 (fun u : Tm => [u.v]) (fun _ _ _ => True) (fun u => (Tm.az 1 u).v) := by
 refine UC.of (cf := cf142) (np := 1) (by kernel_rfl) (by kernel_rfl) (fun _ => rfl) (fun u => by simp only [List.all_cons, qam]; rfl) (fun u => by simp only [List.map_cons, qao]; rfl) (fun _ => Stab.pure _) (fun p lo => qaT lo _) (of_u.mono fun n h u E s _ => ⟨(Tm.az 1 u).v, s, (s142_eq _ _ _ _).trans ?_, qao _⟩)
 have h' := qmL (E := E) 6 1 0 [u] .full (fun E s => h (6, 1, 0, [u]) E s trivial) s
 simp only [List.length_cons, List.length_nil, Nat.zero_add] at h'
 unfold s142
 simp only [qrM, h', qal, qaZ, qaC, Option.bind_some, qab]
theorem qvb (y : Vw) : UC 151 (fun p : Tm × Nat => [p.1.v, .ptr p.2 0]) (fun p E s => qak E s p.2 = some y.c) (fun _ => (Tm.num y.t.m y.t.n).v) := by
 refine UC.of (cf := cf151) (np := 2) (by kernel_rfl) (by kernel_rfl) (fun _ => rfl) (fun _ => by simp only [List.all_cons, qam]; rfl) (fun _ => by simp only [List.map_cons, qao]; rfl) (fun p => Stab.at p.2 _) (fun p lo => qaT lo _) ((qon y.t.m y.t.n).mono fun n h p E s hc => ⟨(Tm.num y.t.m y.t.n).v, s, (s151_eq _ _ _ _ _).trans ?_, qao _⟩)
 have hc' : qak (qae CP n E).E s p.2 = some y.c := by rw [qaQ]; exact hc
 unfold s151
 simp only [ldP hc', Nat.zero_add, h, qal, qaZ, qaC, qj1, qpe, Option.bind_some, qab, qbP]
theorem wr1_u : UC 152 (fun t : Tm => [t.v]) (fun t _ _ => (t.k = 4 ∨ t.k = 18) ∧ ∃ u, t.ks = [u]) (fun t => (b1F .z t).v) := by
 refine UC.of (cf := cf152) (np := 1) (by kernel_rfl) (by kernel_rfl) (fun _ => rfl) (fun u => by simp only [List.all_cons, qam]; rfl) (fun u => by simp only [List.map_cons, qao]; rfl) (fun _ => Stab.pure _) (fun p lo => qaT lo _) (one_u.mono fun n h t E s ⟨hk, u, hu⟩ => ⟨(b1F .z t).v, s, (s152_eq _ _ _ _).trans ?_, qao _⟩)
 obtain ⟨i0, l0⟩ := qcX (n := n) (E := E) (l := [u]) (u := u) rfl
 unfold s152 b1F
 rcases hk with hk | hk
 ·simp only [hk, hu, i0, l0, h u E s trivial, List.headD_cons, if_true, if_false, qal, qaZ, qgD, qpZ, qaC, qag, qaq, Int.reduceEq, decide_false, qaa, cond_false, Option.map_some, Option.bind_some, qab]
 ·simp only [hk, hu, i0, l0, List.headD_cons, if_false, qal, qaZ, qgD, qpZ, qaC, qag, qaq, Int.reduceEq, decide_true, qaa, cond_true, Option.map_some, Option.bind_some, qab]
abbrev ini (t : Tm) : Tm := .num t.m t.n
abbrev cid (x : Sc) : Int := Int.ofNat x.ids.length + 1
theorem qiG (x : Sc) : 1 ≤ cid x := by
 have : (0 : Int) ≤ Int.ofNat x.ids.length := Int.natCast_nonneg _
 show (1 : Int) ≤ Int.ofNat x.ids.length + 1
 omega
theorem qgM {x : Sc} {t u : Tm} (g : Gd x t) (hk : t.k = 10) (hu : t.ks = [u]) : AllN (qmN (cid x)) u ∧ u.size ≤ t.size ∧ u.Ok := by
 have hsz := g.sz (by omega) (by omega)
 have hm : u ∈ t.ks := by rw [hu]; exact List.mem_cons_self ..
 have hlt := qa3 hm
 refine ⟨?_, by omega, g.ok.kids u hm⟩
 have gsh := g.sh
 cases gsh with
 | new n m v =>
  simp only [Tm.ks_mk, List.cons.injEq, and_true] at hu
  subst hu
  rw [qeS, Bool.and_eq_true] at hsz
  exact ql2 (qiG x) v.size v _ (Nat.le_refl _) (g.ok.kids v hm) ⟨_, Sc.get_last, rfl, rfl⟩ (.inl hsz.1)
 | _ => simp only [Tm.k_mk] at hk; omega
theorem qtF (id : Int) (t : Tm) (l l' : Int) : isA id t l = isA id t l' := rfl
theorem qtG (id : Int) (t : Tm) (l l' : Int) : isP id t l = isP id t l' := rfl
theorem qr5 (id : Int) (t : Tm) (l l' : Int) : isH id t l = isH id t l' := rfl
def PbU (id : Int) (t : Tm) : Prop := t.i ≠ id ∧ Big t
def PbR (id : Int) (t : Tm) : Prop := (t.i = id → t.k = 3 ∧ t.ks = []) ∧ Big t
def PbW (id : Int) (t : Tm) : Prop := (t.i = id → (t.k = 4 ∧ t.n = 0 ∧ t.m = 0 ∧ ∃ u, t.ks = [u]) ∨ (t.k = 18 ∧ ∃ u, t.ks = [u])) ∧ Big t
theorem qtH {t : Tm} (h : Sh t) (hk : t.k = 3) : t.ks = [] := by
 cases h with
 | get i => rfl
 | _ => simp only [Tm.k_mk] at hk; omega
theorem qtI {t : Tm} (h : Sh t) (hk : t.k = 4) : t.n = 0 ∧ t.m = 0 ∧ ∃ u, t.ks = [u] := by
 cases h with
 | put i u => exact ⟨rfl, rfl, u, rfl⟩
 | _ => simp only [Tm.k_mk] at hk; omega
theorem qtJ {t : Tm} (h : Sh t) (hk : t.k = 18) : ∃ u, t.ks = [u] := by
 cases h with
 | ntc n i u => exact ⟨u, rfl⟩
 | _ => simp only [Tm.k_mk] at hk; omega
theorem allU {id : Int} {u : Tm} (h : AllN (qmN id) u) (hok : okU (qfx id u) = true) : AllN (PbU id) u := by
 simp only [okU, qfx, Bool.and_eq_true, Bool.not_eq_true'] at hok
 obtain ⟨h1, h2, h3⟩ := hok
 refine (((qdy (qtF id) h1).and (qdy (qtG id) h2)).and ((qdy (qr5 id) h3).and h)).imp fun t ⟨⟨a, p⟩, q, hc, hsh, hb⟩ => ⟨fun hi => ?_, hb⟩
 simp only [isA, isP, isH, hi, decide_true, Bool.true_and, Bool.or_eq_false_iff, decide_eq_false_iff_not] at a p q
 rcases hc hi with k | k | k | k
 ·exact a k
 ·exact p.1 k
 ·exact p.2 k
 ·exact q k
theorem allR {id : Int} {u : Tm} (h : AllN (qmN id) u) (hok : qr3 (qfx id u) = true) : AllN (PbR id) u := by
 simp only [qr3, qfx, Bool.and_eq_true, Bool.not_eq_true'] at hok
 obtain ⟨_, h2, h3⟩ := hok
 refine (((qdy (qtG id) h2)).and ((qdy (qr5 id) h3).and h)).imp fun t ⟨p, q, hc, hsh, hb⟩ => ⟨fun hi => ?_, hb⟩
 simp only [isP, isH, hi, decide_true, Bool.true_and, Bool.or_eq_false_iff, decide_eq_false_iff_not] at p q
 rcases hc hi with k | k | k | k
 ·exact ⟨k, qtH hsh k⟩
 ·exact absurd k p.1
 ·exact absurd k p.2
 ·exact absurd k q
theorem allW {id : Int} {u : Tm} (h : AllN (qmN id) u) (hok : qr4 (qfx id u) = true) : AllN (PbW id) u := by
 simp only [qr4, qfx, Bool.and_eq_true, Bool.not_eq_true'] at hok
 obtain ⟨h1, _, h3⟩ := hok
 refine (((qdy (qtF id) h1)).and ((qdy (qr5 id) h3).and h)).imp fun t ⟨a, q, hc, hsh, hb⟩ => ⟨fun hi => ?_, hb⟩
 simp only [isA, isH, hi, decide_true, Bool.true_and, decide_eq_false_iff_not] at a q
 rcases hc hi with k | k | k | k
 ·exact absurd k a
 ·exact .inl ⟨k, qtI hsh k⟩
 ·exact .inr ⟨k, qtJ hsh k⟩
 ·exact absurd k q
def qk4 (x : Sc) (t : Tm) : Option Tm := clR x okU (ini t) t
def qr6 (x : Sc) (t : Tm) : Option Tm := clR x qr3 (ini t) t
def qoB (x : Sc) (t : Tm) : Option Tm := clR x qr4 (ini t) t
theorem qqa (x : Sc) (t : Tm) (g : Gd x t) (hs : t.size ≤ 900000) : RuC 85 x t (qk4 x t) := by
 have hcl := qfh (ι := Unit) (bv := fun _ => .p .nilFunc) (Cb := fun _ _ _ => True) (val := ini t) x t g hs 149 okU qva (fun _ => rfl) (fun _ => rfl) (fun _ => Stab.pure _) (fun u hk hu hok => by
  obtain ⟨h1, h2, h3⟩ := qgM g hk hu
  exact qgL (ι := Unit) (bv := fun _ => .p .nilFunc) (Cb := fun _ _ _ => True) (Pb := PbU (cid x)) (id := cid x) (val := ini t) ⟨rfl, rfl, rfl⟩ (qiG x) (fun t h => ⟨fun hi => absurd hi h.1, h.2⟩) (fun _ => Stab.pure _) (fun _ _ _ _ _ => trivial) (fun _ _ _ _ _ _ _ => trivial) (fun _ => rfl) (fun _ => rfl) (fun _ => rfl) (fun _ => rfl) u (by omega) (allU h1 hok)
   (Ev.of fun n p E s t _ h hi => absurd hi h.1))
 refine RuC.of (cf := cf85) (by kernel_rfl) (by kernel_rfl) (hcl.mono fun N h E s => ⟨s, (s85_eq _ _ _ _).trans ?_⟩)
 have h' : cl (qae CP N E) 148 [(vw x t).v, .p (.func 149 [] []), .p .nilFunc] s = some (qgR (qk4 x t), s) := h () E s trivial
 unfold s85
 simp only [h', qal, qaZ, qaC, qax, qbR, Option.bind_some, qab, qai, qar, qas, qay]
theorem qtK (x : Sc) (t : Tm) (g : Gd x t) (hs : t.size ≤ 900000) : RuC 86 x t (qr6 x t) := by
 have hcl := qfh (ι := Nat) (bv := fun l => .func 151 [] [.ptr l 0]) (Cb := fun l E s => qak E s l = some (vw x t).c ∧ l < s.next) (val := ini t) x t g hs 150 qr3 qtD (fun _ => rfl) (fun _ => rfl) (fun l => (Stab.at l _).and (fun E s h => h)) (fun u hk hu hok => by
  obtain ⟨h1, h2, h3⟩ := qgM g hk hu
  exact qgL (ι := Nat) (bv := fun l => .func 151 [] [.ptr l 0]) (Cb := fun l E s => qak E s l = some (vw x t).c ∧ l < s.next) (Pb := PbR (cid x)) (id := cid x) (val := ini t) ⟨rfl, rfl, rfl⟩ (qiG x) (fun t h => ⟨fun hi => .inl (h.1 hi), h.2⟩) (fun l => (Stab.at l _).and (fun E s h => h))
   (fun l E s o h => ⟨by
    have := qbc (E := E) (s := qaf s o) (l := l) (m := s.next) (o := o) (H := s.heap) rfl (by omega)
    rw [this]
    exact h.1, Nat.lt_succ_of_lt h.2⟩) (fun l E s s' h e1 e2 => ⟨by rw [qdS e1]; exact h.1, by rw [e2]; exact h.2⟩) (fun _ => rfl) (fun _ => rfl) (fun _ => rfl) (fun _ => rfl) u (by omega) (allR h1 hok)
   (((qvb (vw x t)).and (Ev.ge 1)).mono fun n ⟨h, hn⟩ l E s t' hc hp hi => by
    rw [qg8 CP hn]
    have e : b1F (ini t) t' = ini t := by unfold b1F; rw [if_pos (hp.1 hi).1]
    rw [e]
    exact h (t', l) E s hc.1))
 refine RuC.of (cf := cf86) (by kernel_rfl) (by kernel_rfl) (hcl.mono fun N h E s => ⟨qaf s (.cells (vw x t).c), (s86_eq _ _ _ _).trans ?_⟩)
 have h' : cl (qae CP N E) 148 [(vw x t).v, .p (.func 150 [] []), .func 151 [] [.ptr s.next 0]] (qaf s (.cells (vw x t).c)) = some (qgR (qr6 x t), qaf s (.cells (vw x t).c)) := h s.next E _ ⟨qaI _ _ _, Nat.lt_succ_self _⟩
 unfold s86
 simp only [h', qal, qaZ, qaC, qax, qbR, qcL, Option.bind_some, qab, qai, qar, qas, qaS, qba, cnd, qce, qay]
theorem qr7 (x : Sc) (t : Tm) (g : Gd x t) (hs : t.size ≤ 900000) : RuC 87 x t (qoB x t) := by
 have hcl := qfh (ι := Unit) (bv := fun _ => .p (.func 152 [] [])) (Cb := fun _ _ _ => True) (val := ini t) x t g hs 153 qr4 qtE (fun _ => rfl) (fun _ => rfl) (fun _ => Stab.pure _) (fun u hk hu hok => by
  obtain ⟨h1, h2, h3⟩ := qgM g hk hu
  exact qgL (ι := Unit) (bv := fun _ => .p (.func 152 [] [])) (Cb := fun _ _ _ => True) (Pb := PbW (cid x)) (id := cid x) (val := ini t) ⟨rfl, rfl, rfl⟩ (qiG x) (fun t h => ⟨fun hi => .inr (h.1 hi), h.2⟩) (fun _ => Stab.pure _) (fun _ _ _ _ _ => trivial) (fun _ _ _ _ _ _ _ => trivial) (fun _ => rfl) (fun _ => rfl) (fun _ => rfl) (fun _ => rfl) u (by omega) (allW h1 hok)
   ((wr1_u.and (Ev.ge 1)).mono fun n ⟨h, hn⟩ p E s t' _ hp hi => by
    rw [qeO CP hn]
    have hq := hp.1 hi
    have e : b1F (ini t) t' = b1F .z t' := by
     unfold b1F
     have : ¬ t'.k = 3 := by rcases hq with h | h <;> omega
     rw [if_neg this, if_neg this]
    rw [e]
    refine h t' E s ?_
    rcases hq with ⟨k, _, _, u⟩ | ⟨k, u⟩
    ·exact ⟨.inl k, u⟩
    ·exact ⟨.inr k, u⟩))
 refine RuC.of (cf := cf87) (by kernel_rfl) (by kernel_rfl) (hcl.mono fun N h E s => ⟨s, (s87_eq _ _ _ _).trans ?_⟩)
 have h' : cl (qae CP N E) 148 [(vw x t).v, .p (.func 153 [] []), .p (.func 152 [] [])] s = some (qgR (qoB x t), s) := h () E s trivial
 unfold s87
 simp only [h', qal, qaZ, qaC, qax, qbR, Option.bind_some, qab, qai, qar, qas, qay]
end Go.AI.Tryz
namespace Go.AI
def qbb {σ α : Type} (f : σ → α → σ × Bool) : σ → List α → σ × Bool
 | x, [] => (x, true)
 | x, a :: r => if (f x a).2 then qbb f (f x a).1 r else ((f x a).1, false)
theorem qdT {σ α : Type} (f : σ → α → σ × Bool) : ∀ (l m : List α) (x : σ), qbb f x (l ++ m) = if (qbb f x l).2 then qbb f (qbb f x l).1 m else ((qbb f x l).1, false)
 | [], m, x => by simp only [List.nil_append, qbb, if_true]
 | a :: l, m, x => by
  simp only [List.cons_append, qbb]
  split
  ·exact qdT f l m _
  ·simp only [Bool.false_eq_true, if_false]
end Go.AI
namespace Go.AI.Tryz
def ScOk (x : Sc) : Prop := ∀ e ∈ x.ids, 1 ≤ e.ty.res.n ∧ e.ty.res.n ≤ 64
theorem ScOk.get {x : Sc} (h : ScOk x) {i : Int} {e : Se} (he : x.get i = some e) : 1 ≤ e.ty.res.n ∧ e.ty.res.n ≤ 64 := by
 obtain ⟨j, _, hj⟩ := Sc.get_inv he
 exact h e (List.mem_of_getElem? hj)
theorem ScOk.with {x : Sc} (h : ScOk x) {y : Se} (hy : 1 ≤ y.ty.res.n ∧ y.ty.res.n ≤ 64) : ScOk (x.with y) := by
 intro e he
 simp only [Sc.with, List.mem_append, List.mem_singleton] at he
 rcases he with he | rfl
 ·exact h e he
 ·exact hy
theorem qfV : ∀ (d : Nat) (t : Tm) (x : Sc), t.size ≤ d → ScOk x → (szF x t).2 = true → 1 ≤ (szF x t).1 ∧ (szF x t).1 ≤ 64
 | 0, t, _, h, _, _ => by have := Tm.size_pos t; omega
 | d + 1, t, x, hd, hx, h => by
  have IH : ∀ u ∈ t.ks, ∀ y, ScOk y → (szF y u).2 = true → 1 ≤ (szF y u).1 ∧ (szF y u).1 ≤ 64 := fun u hu y hy hs => qfV d u y (by have := qa3 hu; omega) hy hs
  cases qdu h with
  | num n m => rw [qdA] at h ⊢; simp only [Bool.and_eq_true, isSize_iff] at h; exact h.1
  | use i ks =>
   rw [qgF] at h ⊢
   cases he : x.get i with
   | none => rw [he] at h; cases h
   | some e => exact hx.get he
  | get i =>
   rw [qhE] at h ⊢
   cases he : x.get i with
   | none => rw [he] at h; cases h
   | some e => exact hx.get he
  | val i =>
   rw [qhF] at h ⊢
   cases he : x.get i with
   | none => rw [he] at h; cases h
   | some e => exact hx.get he
  | put i u => rw [qeP]; exact ⟨Int.le_refl _, by show (1 : Int) ≤ 64; omega⟩
  | whl u w => rw [qft]; exact ⟨Int.le_refl _, by show (1 : Int) ≤ 64; omega⟩
  | jmp n => rw [qlW]; exact ⟨Int.le_refl _, by show (1 : Int) ≤ 64; omega⟩
  | hang => rw [qiz]; exact ⟨Int.le_refl _, by show (1 : Int) ≤ 64; omega⟩
  | op n m u w =>
   rw [qeQ] at h ⊢
   split at h
   ·simp only [Bool.and_eq_true, isSize_iff] at h; rename_i h1; simp only [h1, if_true]; exact h.1
   ·split at h
    ·rename_i h1 h2; simp only [h1, h2, if_false, if_true]; exact ⟨by omega, by omega⟩
    ·cases h
  | az n u => rw [qeR] at h ⊢; simp only [Bool.and_eq_true, isSize_iff] at h; exact h.2
  | seq u w => rw [qbQ] at h ⊢; simp only [Bool.and_eq_true] at h; exact IH w (by simp [Tm.ks]) x hx h.1
  | ite c u w => rw [qci] at h ⊢; simp only [Bool.and_eq_true] at h; exact IH u (by simp [Tm.ks]) x hx h.1.1
  | new n m u =>
   rw [qeS] at h ⊢
   simp only [Bool.and_eq_true, isSize_iff] at h
   exact IH u (by simp [Tm.ks]) _ (hx.with h.2.1) h.1
  | lbl u w => rw [qd9] at h ⊢; simp only [Bool.and_eq_true] at h; exact IH u (by simp [Tm.ks]) { x with size := x.size + 1 } hx h.1
  | cho u w => rw [qea] at h ⊢; simp only [Bool.and_eq_true] at h; exact IH u (by simp [Tm.ks]) x hx h.1
  | ntc n i u => rw [qec] at h ⊢; simp only [Bool.and_eq_true] at h; exact IH u (by simp [Tm.ks]) x hx h.1
  | cel i => rw [qfu] at h; cases h
  | obj u w => rw [qeb] at h; cases h
structure Nd (x : Sc) (t : Tm) : Prop where
 w : (szF x t).2 = true ∨ ∃ b, qdC szF x t b = true
 b : x.B t.size
 ok : t.Ok
 sc : ScOk x
theorem Nd.sh {x : Sc} {t : Tm} (h : Nd x t) : Sh t := by
 rcases h.w with h | ⟨b, h⟩
 ·exact qdu h
 ·rcases qeU h with h | ⟨i, e, rfl, _⟩ | ⟨u, w, rfl, _⟩
  ·exact qdu (by rw [h])
  ·exact .cel i
  ·exact .obj u w
theorem Nd.gd {x : Sc} {t : Tm} (h : Nd x t) : Gd x t := by
 refine ⟨h.sh, h.b, fun h1 h2 => ?_, h.ok⟩
 rcases h.w with h | ⟨b, h⟩
 ·exact h
 ·rcases qeU h with h | ⟨i, e, rfl, _⟩ | ⟨u, w, rfl, _⟩
  ·rw [h]
  ·exact absurd rfl h1
  ·exact absurd rfl h2
theorem Nd.size {x : Sc} {t : Tm} (h : Nd x t) : t.size ≤ 1000000 := by have := h.b.1; omega
theorem qvc {x : Sc} {t u : Tm} {j : Nat} (h : x.B t.size) (hu : t.ks[j]? = some u) : (x.kid t j).B u.size := by
 have hlt := qa3 (List.mem_of_getElem? hu)
 unfold Sc.kid
 split
 ·exact qhD h hlt
 ·split
  ·exact qhD h hlt
  ·split
   ·obtain ⟨h1, h2, h3⟩ := h
    exact ⟨by show x.ids.length + _ ≤ _; omega, by show 0 ≤ x.size + 1; omega, by show x.size + 1 + _ ≤ _; omega⟩
   ·exact qm1 h hlt
theorem Nd.kid {x : Sc} {t u : Tm} {j : Nat} (h : Nd x t) (hu : t.ks[j]? = some u) : Nd (x.kid t j) u := by
 have hm := List.mem_of_getElem? hu
 have hb := qvc h.b hu
 have hok := h.ok.kids u hm
 have hB := h.b
 have hOk := h.ok
 have fin : ∀ y, y = x.kid t j → ((szF y u).2 = true ∨ ∃ b, qdC szF y u b = true) → ScOk y → Nd (x.kid t j) u := by
  rintro y rfl h1 h2
  exact ⟨h1, hb, hok, h2⟩
 have sc := h.sc
 have hw : (szF x t).2 = true ∨ (∃ i, t = .cel i) ∨ (∃ v w, ∃ b : Bs, t = .obj v w ∧ szF x v = (b.n, true) ∧ szF (x.with ⟨⟨[], ⟨false, b.n⟩⟩, true⟩) w = (1, true)) := by
  rcases h.w with h | ⟨b, h⟩
  ·exact .inl h
  ·rcases qeU h with h1 | ⟨i, e, h1, _⟩ | ⟨v, w, h1, h2, h3, _⟩
   ·exact .inl (by rw [h1])
   ·exact .inr (.inl ⟨i, h1⟩)
   ·exact .inr (.inr ⟨v, w, b, h1, h2, h3⟩)
 clear h
 rcases hw with h | ⟨i, rfl⟩ | ⟨v, w, b, rfl, h1, h2⟩
 ·cases qdu h with
  | num n m => simp [Tm.ks] at hu
  | use i ks =>
   rw [qgF] at h
   simp only [Bool.and_eq_true] at h
   obtain ⟨b, _, hf⟩ := qfi h.2.2.2 u hm
   exact fin x (by simp [Sc.kid, Tm.k]) (.inr ⟨b, hf⟩) sc
  | get i => simp [Tm.ks] at hu
  | put i v =>
   rw [qeP, Bool.and_eq_true, is2_iff] at h
   have : u = v := by simpa [Tm.ks] using hm
   subst this
   exact fin x (by simp [Sc.kid, Tm.k]) (.inl (by rw [h.2])) sc
  | op n m v w =>
   rw [qeQ] at h
   have hin : is2 (szF x v) m = true ∧ is2 (szF x w) m = true := by
    split at h
    ·simp only [Bool.and_eq_true] at h ⊢; exact h.2
    ·split at h
     ·simp only [Bool.and_eq_true] at h ⊢; exact h.2
     ·cases h
   rw [is2_iff, is2_iff] at hin
   have hc : u = v ∨ u = w := by simpa [Tm.ks] using hm
   rcases hc with rfl | rfl
   ·exact fin x (by simp [Sc.kid, Tm.k]) (.inl (by rw [hin.1])) sc
   ·exact fin x (by simp [Sc.kid, Tm.k]) (.inl (by rw [hin.2])) sc
  | az n v =>
   rw [qeR, Bool.and_eq_true] at h
   have : u = v := by simpa [Tm.ks] using hm
   subst this
   exact fin x (by simp [Sc.kid, Tm.k]) (.inl h.1) sc
  | seq v w =>
   rw [qbQ, Bool.and_eq_true, is2_iff] at h
   have hc : u = v ∨ u = w := by simpa [Tm.ks] using hm
   rcases hc with rfl | rfl
   ·exact fin x (by simp [Sc.kid, Tm.k]) (.inl (by rw [h.2])) sc
   ·exact fin x (by simp [Sc.kid, Tm.k]) (.inl h.1) sc
  | ite c v w =>
   rw [qci, Bool.and_eq_true, Bool.and_eq_true, is2_iff] at h
   have hc : u = c ∨ u = v ∨ u = w := by simpa [Tm.ks] using hm
   rcases hc with rfl | rfl | rfl
   ·exact fin x (by simp [Sc.kid, Tm.k]) (.inl h.2) sc
   ·exact fin x (by simp [Sc.kid, Tm.k]) (.inl h.1.1) sc
   ·exact fin x (by simp [Sc.kid, Tm.k]) (.inl (by rw [h.1.2])) sc
  | whl v w =>
   rw [qft, Bool.and_eq_true, is2_iff] at h
   have hc : u = v ∨ u = w := by simpa [Tm.ks] using hm
   rcases hc with rfl | rfl
   ·exact fin x (by simp [Sc.kid, Tm.k]) (.inl h.1) sc
   ·exact fin x (by simp [Sc.kid, Tm.k]) (.inl (by rw [h.2])) sc
  | new n m v =>
   rw [qeS, Bool.and_eq_true, Bool.and_eq_true, isSize_iff] at h
   have : u = v := by simpa [Tm.ks] using hm
   subst this
   exact fin _ (by simp [Sc.kid, Tm.k, Tm.n]) (.inl h.1) (sc.with h.2.1)
  | lbl v w =>
   rw [qd9, Bool.and_eq_true, is2_iff] at h
   match j, hu with
   | 0, hu =>
    have : u = v := by simpa [Tm.ks] using hu.symm
    subst this
    exact fin { x with size := x.size + 1 } (by simp [Sc.kid, Tm.k]) (.inl h.1) sc
   | 1, hu =>
    have : u = w := by simpa [Tm.ks] using hu.symm
    subst this
    exact fin x (by simp [Sc.kid, Tm.k]) (.inl (by rw [h.2])) sc
   | j + 2, hu => simp [Tm.ks] at hu
  | jmp n => simp [Tm.ks] at hu
  | cho v w =>
   rw [qea, Bool.and_eq_true, is2_iff] at h
   have hc : u = v ∨ u = w := by simpa [Tm.ks] using hm
   rcases hc with rfl | rfl
   ·exact fin x (by simp [Sc.kid, Tm.k]) (.inl h.1) sc
   ·exact fin x (by simp [Sc.kid, Tm.k]) (.inl (by rw [h.2])) sc
  | hang => simp [Tm.ks] at hu
  | val i => simp [Tm.ks] at hu
  | cel i => simp [Tm.ks] at hu
  | obj v w => rw [qeb] at h; cases h
  | ntc n i v =>
   rw [qec, Bool.and_eq_true] at h
   have : u = v := by simpa [Tm.ks] using hm
   subst this
   exact fin x (by simp [Sc.kid, Tm.k]) (.inl h.1) sc
 ·simp [Tm.ks] at hu
 ·match j, hu with
  | 0, hu =>
   have : u = v := by simpa [Tm.ks] using hu.symm
   subst this
   exact fin x (by simp [Sc.kid, Tm.k]) (.inl (by rw [h1])) sc
  | 1, hu =>
   have : u = w := by simpa [Tm.ks] using hu.symm
   subst this
   have hr := qfV _ v x (Nat.le_refl _) sc (by rw [h1])
   rw [h1] at hr
   exact fin (x.with ⟨⟨[], ⟨false, b.n⟩⟩, true⟩) (by simp [Sc.kid, Tm.k, Tm.ks, h1]) (.inl (by rw [h2])) (sc.with hr)
  | j + 2, hu => simp [Tm.ks] at hu
def qbH (i : Nat) (x : Sc) (t : Tm) : Option Tm :=
 match i with
 | 0 => opR x t | 1 => asR t | 2 => qkW x t | 3 => qdv t | 4 => qkY t | 5 => ifR t | 6 => qkZ t | 7 => qp3 t | 8 => qk0 x t | 9 => qk1 t | 10 => qiE t | 11 => qha x t
 | 12 => qgG t | 13 => qk4 x t | 14 => qr6 x t | 15 => qoB x t | 16 => qeT x t | 17 => qgK t | 18 => qk2 t | 19 => qev x t | 20 => qeu t | 21 => qfv t
 | _ => none
theorem qtL {x : Sc} {t : Tm} (h : Nd x t) (hs : t.size ≤ 900000) : ∀ i, i < 22 → RuC (72 + i) x t (qbH i x t)
 | 0, _ => op_c x t h.gd
 | 1, _ => as_c x t h.sh fun hk => by
  have := h.gd.sz (by omega) (by omega)
  cases h.sh with
  | az n u => rw [qeR, Bool.and_eq_true, isSize_iff] at this; show n ≠ 0; omega
  | _ => simp only [Tm.k_mk] at hk; omega
 | 2, _ => qrP x t h.gd
 | 3, _ => qop x t h.gd
 | 4, _ => qtt x t h.gd
 | 5, _ => if_c x t h.gd
 | 6, _ => qrT x t h.gd
 | 7, _ => qu6 x t h.gd
 | 8, _ => qtv x t h.gd
 | 9, _ => qtw x t h.gd
 | 10, _ => qtx x t h.gd
 | 11, _ => by
  by_cases hk : t.k = 16 ∨ t.k = 17
  ·have hsh := h.sh
   refine qqP x t h.gd ?_
   rcases hk with hk | hk
   ·cases hsh with
    | cel i => rw [qfu]; exact .mk (by omega) (by omega) (by show _ ∧ (0 : Int) ≤ _; omega) (by omega) (by simp) (fun _ h => by cases h)
    | _ => simp only [Tm.k_mk] at hk; omega
   ·cases hsh with
    | obj u w => rw [qeb]; exact .mk (by omega) (by omega) (by show _ ∧ (0 : Int) ≤ _; omega) (by omega) (by simp) (fun _ h => by cases h)
    | _ => simp only [Tm.k_mk] at hk; omega
  ·have hsz := h.gd.sz (by omega) (by omega)
   have := qfV _ t x (Nat.le_refl _) h.sc hsz
   exact qqP x t h.gd (.mk (by omega) (by omega) (by omega) (by omega) (by simp) (fun _ h => by cases h))
 | 12, _ => qrV x t h.gd
 | 13, _ => qqa x t h.gd hs
 | 14, _ => qtK x t h.gd hs
 | 15, _ => qr7 x t h.gd hs
 | 16, _ => qrX x t h.gd
 | 17, _ => qr0 x t h.gd hs
 | 18, _ => qty x t h.gd
 | 19, _ => qp8 x t h.gd hs
 | 20, _ => qp4 x t h.gd
 | 21, _ => qrW x t h.gd
 | _ + 22, h => absurd h (by omega)
mutual
def qbl : Tm → Sc → List (Sc × Tm)
 | .mk k n m i ks, x => (x, .mk k n m i ks) :: qbA (fun j => x.kid (.mk k n m i ks) j) 0 ks
def qbA (sc : Nat → Sc) : Nat → List Tm → List (Sc × Tm)
 | _, [] => []
 | j, u :: r => qbl u (sc j) ++ qbA sc (j + 1) r
end
theorem qd3 (t : Tm) (x : Sc) : qbl t x = (x, t) :: qbA (fun j => x.kid t j) 0 t.ks := by cases t; rw [qbl]; rfl
theorem qeV : ∀ (d : Nat) (t : Tm) (x : Sc), t.size ≤ d → Nd x t → ∀ p ∈ qbl t x, Nd p.1 p.2 ∧ p.2.size ≤ t.size
 | 0, t, _, h, _ => by have := Tm.size_pos t; omega
 | d + 1, t, x, hd, h => by
  have hk : ∀ (r done : List Tm) (j : Nat), t.ks = done ++ r → done.length = j → ∀ p ∈ qbA (fun j => x.kid t j) j r, Nd p.1 p.2 ∧ p.2.size ≤ t.size := by
   intro r
   induction r with
   | nil => intro done j _ _ p hp; simp only [qbA] at hp; cases hp
   | cons u r ih =>
    intro done j he hl p hp
    simp only [qbA, List.mem_append] at hp
    have hu : t.ks[j]? = some u := by rw [he, List.getElem?_append_right (by omega), hl]; simp
    have hlt := qa3 (List.mem_of_getElem? hu)
    rcases hp with hp | hp
    ·obtain ⟨h1, h2⟩ := qeV d u _ (by omega) (h.kid hu) p hp
     exact ⟨h1, by omega⟩
    ·exact ih (done ++ [u]) (j + 1) (by rw [he]; simp) (by simp [hl]) p hp
  intro p hp
  rw [qd3, List.mem_cons] at hp
  rcases hp with rfl | hp
  ·exact ⟨h, Nat.le_refl _⟩
  ·exact hk t.ks [] 0 rfl rfl p hp
end Go.AI.Tryz
namespace Go.AI
theorem qdh {α : Type} {l : Nat} : ∀ {pre H : List (Nat × α)}, (∀ x ∈ pre, x.1 ≠ l) → qan (pre ++ H) l = qan H l
 | [], _, _ => rfl
 | (k, v) :: pre, H, h => by
  simp only [List.cons_append, qan]
  rw [show Nat.beq k l = false from Tryz.beq_false (h _ (List.mem_cons_self ..)), cond_false]
  exact qdh fun x hx => h x (List.mem_cons_of_mem _ hx)
theorem qc3 {α : Type} {l : Nat} {v : α} : ∀ {pre H : List (Nat × α)}, (∀ x ∈ pre, x.1 ≠ l) → qaE (pre ++ H) l v = (qaE H l v).map (pre ++ ·)
 | [], H, _ => by cases h : qaE H l v <;> simp [h]
 | (k, w) :: pre, H, h => by
  simp only [List.cons_append, qaE]
  rw [show Nat.beq k l = false from Tryz.beq_false (h _ (List.mem_cons_self ..)), cond_false, qc3 fun x hx => h x (List.mem_cons_of_mem _ hx)]
  cases qaE H l v <;> rfl
theorem qew {E : qaJ} {s : ASt} {l : Nat} {pre H : qaJ} (h : s.heap = pre ++ H) (hp : ∀ x ∈ pre, x.1 ≠ l) : qak E s l = qcI E H l := by
 unfold qcI qak
 rw [h, qdh hp]
end Go.AI
namespace Go.AI.Tryz
section
variable {κ σ : Type} {R : κ → σ → qaJ → ASt → Prop} {fv : κ → AVal} {f : σ → Sc × Tm → σ × Bool} {NS : List (Sc × Tm)} {live : Nat → σ → Prop}
def qtM (live : Nat → σ → Prop) (R : κ → σ → qaJ → ASt → Prop) (fv : κ → AVal) (f : σ → Sc × Tm → σ × Bool) (NS : List (Sc × Tm)) (n : Nat) : Prop := ∀ q y E s m, ∀ p ∈ NS, R q y E s → live (m + 22) y → ∃ s', clv (qae CP n E) (fv q) [(vw p.1 p.2).v] s = some (bl (f y p).2, s') ∧ R q (f y p).1 E s' ∧ ((f y p).2 = true → live m (f y p).1)
def qvv (NS : List (Sc × Tm)) (n : Nat) : Prop := ∀ p ∈ NS, ∀ (j : Nat) u, p.2.ks[j]? = some u → ∀ E s, cl (qae CP n E) 132 [(vw p.1 p.2).v, i64 (.ofNat j)] s = some ((vw (p.1.kid p.2 j) u).v, s)
theorem qqS (ha : ∀ q, qbg (fv q) = true) (he : ∀ q, qaA (fv q) = fv q) (hf : Ev fun n => qtM live R fv f NS n) (hk : Ev fun n => qvv NS n) :
  ∀ d, d ≤ 1000000 → Ev fun n => ∀ q (t : Tm) x, t.size ≤ d → (∀ p ∈ qbl t x, p ∈ NS) → ∀ y E s m, R q y E s → live (m + 22 * t.size) y → ∃ s', cl (qae CP n E) 95 [(vw x t).v, fv q] s = some (bl (qbb f y (qbl t x)).2, s') ∧ R q (qbb f y (qbl t x)).1 E s' ∧ ((qbb f y (qbl t x)).2 = true → live m (qbb f y (qbl t x)).1)
 | 0, _ => Ev.of fun n q t x h => by have := Tm.size_pos t; omega
 | d + 1, hd => by
  refine Ev.succ (((hf.and hk).and ((qqS ha he hf hk d (by omega)).and (Ev.ge (d + 3)))).mono fun n ⟨⟨hf, hk⟩, ih, hn⟩ q t x hsz hmem y E s m hr hlv => ?_)
  suffices ∃ s', s95 (qae CP n E) n (vw x t).v (fv q) s = some (bl (qbb f y (qbl t x)).2, s') ∧ R q (qbb f y (qbl t x)).1 E s' ∧ ((qbb f y (qbl t x)).2 = true → live m (qbb f y (qbl t x)).1) by
   obtain ⟨s', e1, e2, e3⟩ := this
   refine ⟨s', ?_, e2, e3⟩
   rw [qbK]
   exact qfb (cf := cf95) (np := 2) (args' := [(vw x t).v, fv q]) (v := bl (qbb f y (qbl t x)).2) (by kernel_rfl) (by kernel_rfl) rfl (by simp only [List.all_cons, qcy, ha]; rfl) (by simp only [List.map_cons, qcz, he]; rfl) ((s95_eq _ _ _ _ _).trans e1) rfl rfl
  have hself : (x, t) ∈ NS := hmem _ (by rw [qd3]; exact List.mem_cons_self ..)
  have hts := Tm.size_ks t
  rw [hts] at hlv
  obtain ⟨s1, a1, a2, a3⟩ := hf q y E s (m + 22 * Tm.sizeL t.ks) (x, t) hself hr (by rw [show m + 22 * Tm.sizeL t.ks + 22 = m + 22 * (1 + Tm.sizeL t.ks) by omega]; exact hlv)
  rw [qd3, qbb]
  rw [qd3] at hmem
  unfold s95
  cases hgo : (f y (x, t)).2 with
  | false =>
   rw [hgo] at a1
   simp only [a1, Bool.false_eq_true, if_false, qax, qbR, qbU, vwt, Bool.not_false, qaa, cond_true, Option.bind_some, qab, qau, qc8]
   exact ⟨s1, rfl, a2, fun h => by cases h⟩
  | true =>
   rw [hgo] at a1
   simp only [a1, if_true, qax, qbR, qbU, vwt, Bool.not_true, qaa, cond_false, Option.bind_some, qab, qau, qc8]
   unfold s95_0
   generalize hF : (fun (h12 : AVal → ASt → Res) (x10 : AVal) (s11 : ASt) => _) = F
   have hlen := Tm.len_le_size t.ks
   have key : ∀ (r done : List Tm) (j k : Nat) (y : σ) (s : ASt), t.ks = done ++ r → done.length = j → r.length < k → R q y E s → live (m + 22 * Tm.sizeL r) y → ∃ s', lp (fun _ _ => none) F k (i64 (.ofNat j)) s = some (bl (qbb f y (qbA (fun j => x.kid t j) j r)).2, s') ∧ R q (qbb f y (qbA (fun j => x.kid t j) j r)).1 E s' ∧ ((qbb f y (qbA (fun j => x.kid t j) j r)).2 = true → live m (qbb f y (qbA (fun j => x.kid t j) j r)).1) := by
    intro r
    induction r with
    | nil =>
     intro done j k y s h1 h2 hk hr hlv
     obtain ⟨k, rfl⟩ : ∃ m, k = m + 1 := ⟨k - 1, by simp only [List.length_nil] at hk; omega⟩
     rw [qbj]
     generalize lp _ F k = L
     subst hF
     have hj : j = t.ks.length := by rw [h1]; simp [h2]
     have hnl : ¬ (Int.ofNat j < Int.ofNat t.ks.length) := fun h => by have := of_lt.1 h; omega
     simp only [hnl, qbA, qbb, qbR, qag, qaD, qaG, decide_false, qaa, cond_false, Option.map_some, Option.bind_some]
     exact ⟨s, rfl, hr, fun _ => by simpa only [Tm.sizeL, Nat.mul_zero, Nat.add_zero] using hlv⟩
    | cons u r ih2 =>
     intro done j k y s h1 h2 hk2 hr hlv
     obtain ⟨k, rfl⟩ : ∃ m, k = m + 1 := ⟨k - 1, by simp only [List.length_cons] at hk2; omega⟩
     have hu : t.ks[j]? = some u := by rw [h1, List.getElem?_append_right (by omega), h2]; simp
     have hjl : j < t.ks.length := (List.getElem?_eq_some_iff.1 hu).1
     have hus : u.size < t.size := qa3 (List.mem_of_getElem? hu)
     have hkid := hk (x, t) hself j u hu E
     have hsub : ∀ p ∈ qbA (fun j => x.kid t j) j (u :: r), p ∈ qbA (fun j => x.kid t j) 0 t.ks := by
      have : ∀ (dn : List Tm) (i : Nat) (rest : List Tm) p, p ∈ qbA (fun j => x.kid t j) (i + dn.length) rest → p ∈ qbA (fun j => x.kid t j) i (dn ++ rest) := by
       intro dn
       induction dn with
       | nil => intro i rest p hp; exact hp
       | cons v dn ih3 =>
        intro i rest p hp
        simp only [List.cons_append, qbA, List.mem_append]
        right
        refine ih3 (i + 1) rest p ?_
        rw [List.length_cons] at hp
        rw [show i + 1 + dn.length = i + (dn.length + 1) by omega]
        exact hp
      intro p hp
      rw [h1]
      exact this done 0 _ p (by rw [Nat.zero_add, h2]; exact hp)
     have hmu : ∀ p ∈ qbl u (x.kid t j), p ∈ NS := fun p hp => hmem p (List.mem_cons_of_mem _ (hsub p (by simp only [qbA, List.mem_append]; exact .inl hp)))
     obtain ⟨s2, b1, b2, b3⟩ := ih q u (x.kid t j) (by omega) hmu y E s (m + 22 * Tm.sizeL r) hr (by rw [show m + 22 * Tm.sizeL r + 22 * u.size = m + 22 * (u.size + Tm.sizeL r) by omega]; exact hlv)
     simp only [qbA, qdT]
     have hw := qa1 (show j < 9223372036854775807 by omega)
     cases hg2 : (qbb f y (qbl u (x.kid t j))).2 with
     | false =>
      rw [hg2] at b1
      rw [qbj]
      generalize lp _ F k = L
      subst hF
      simp only [of_lt.2 hjl, hkid, b1, Bool.false_eq_true, if_false, qbR, qag, qaD, qaG, decide_true, Bool.not_false, qaa, cond_true, Option.map_some, Option.bind_some, qab, qau]
      exact ⟨s2, rfl, b2, fun h => by cases h⟩
     | true =>
      rw [hg2] at b1
      obtain ⟨s3, c1, c2, c3⟩ := ih2 (done ++ [u]) (j + 1) k _ s2 (by rw [h1]; simp) (by simp [h2]) (by simp only [List.length_cons] at hk2; omega) b2 (b3 hg2)
      rw [qbj]
      generalize lp _ F k = L at c1 ⊢
      subst hF
      simp only [of_lt.2 hjl, hkid, b1, hw, if_true, qbR, qag, qaD, qaG, decide_true, Bool.not_true, qaa, cond_true, cond_false, Option.map_some, Option.bind_some, qab, qau]
      exact ⟨s3, c1, c2, c3⟩
   exact key t.ks [] 0 n _ s1 rfl rfl (by omega) a2 (a3 hgo)
end
def nm : Nat → ByteArray
 | 0 => ⟨#[111, 112]⟩ | 1 => ⟨#[97, 115]⟩ | 2 => ⟨#[115, 105, 122, 101]⟩ | 3 => ⟨#[110, 101, 117, 116, 114, 97, 108]⟩ | 4 => ⟨#[115, 119, 97, 112]⟩ | 5 => ⟨#[105, 102]⟩ | 6 => ⟨#[115, 97, 109, 101]⟩ | 7 => ⟨#[110, 111, 116]⟩ | 8 => ⟨#[98, 111, 111, 108]⟩ | 9 => ⟨#[115, 107, 105, 112]⟩ | 10 => ⟨#[110, 101, 115, 116]⟩
 | 11 => ⟨#[100, 101, 97, 100]⟩ | 12 => ⟨#[119, 104, 105, 108, 101]⟩ | 13 => ⟨#[117, 110, 117, 115, 101, 100]⟩ | 14 => ⟨#[114, 101, 97, 100]⟩ | 15 => ⟨#[119, 114, 105, 116, 101]⟩ | 16 => ⟨#[107, 110, 111, 119, 110]⟩ | 17 => ⟨#[108, 97, 98, 101, 108]⟩ | 18 => ⟨#[106, 117, 109, 112]⟩ | 19 => ⟨#[110, 111, 116, 105, 99, 101]⟩ | 20 => ⟨#[99, 104, 111, 111, 115, 101]⟩ | _ => ⟨#[110, 101, 118, 101, 114]⟩
def ruC (i : Nat) : List PVal := [.str (nm i), .func (72 + i) [] []]
def ruL : List Nat := [0, 1, 2, 3, 4, 5, 6, 7, 8, 9, 10, 11, 12, 13, 14, 15, 16, 17, 18, 19, 20, 21]
abbrev ruV : AVal := .p (.sl 22 (qaY ruC ruL))
theorem qoC : PC CP 50 [] ruV := by
 refine PC.of2 (cf := cf50) (np := 0) (args' := []) (by kernel_rfl) (by kernel_rfl) rfl rfl rfl (fun _ => rfl) (Ev.of fun n E s => ⟨.sl 22 (qaY ruC ruL) .full, s, (s50_eq _ _ _).trans ?_, rfl⟩)
 rfl
theorem qiH {i : Nat} (h : i < 22) : ruL[i]? = some i := by
 match i, h with
 | 0, _ => rfl | 1, _ => rfl | 2, _ => rfl | 3, _ => rfl | 4, _ => rfl | 5, _ => rfl | 6, _ => rfl | 7, _ => rfl | 8, _ => rfl | 9, _ => rfl | 10, _ => rfl
 | 11, _ => rfl | 12, _ => rfl | 13, _ => rfl | 14, _ => rfl | 15, _ => rfl | 16, _ => rfl | 17, _ => rfl | 18, _ => rfl | 19, _ => rfl | 20, _ => rfl | 21, _ => rfl
 | _ + 22, h => exact absurd h (by omega)
end Go.AI.Tryz
namespace Go.AI.Tryz
abbrev Of := Int × Int × Tm
def rwV (o : Of) : AVal := .agg [u8 o.1, i64 o.2.1]
def qcA (sm : Int → Bool) (x : Sc) (t : Tm) (at_ : Int) : List Of := ruL.filterMap fun i => if sm (.ofNat (i + 1)) then (qbH i x t).map fun u => (.ofNat (i + 1), at_, u) else none
def qeW (sm : Int → Bool) : Int → List (Sc × Tm) → List Of
 | _, [] => []
 | at_, p :: r => qcA sm p.1 p.2 at_ ++ qeW sm (at_ + 1) r
def qmO (sm : Int → Bool) : Int → List (Sc × Tm) → List Of
 | _, [] => []
 | at_, p :: r => qcA sm p.1 p.2 at_ ++ qmO sm (qa7 .i64 (at_ + 1)) r
theorem ql3 (sm : Int → Bool) : ∀ (r : List (Sc × Tm)) (at_ : Int), 0 ≤ at_ → at_ + r.length ≤ 1000000000 → qmO sm at_ r = qeW sm at_ r
 | [], _, _, _ => rfl
 | p :: r, a, h0, h1 => by
  simp only [List.length_cons] at h1
  simp only [qmO, qeW]
  rw [qbS (by omega) (by omega), ql3 sm r (a + 1) (by omega) (by omega)]
def f96 {σ : Type} (st : σ → Of → σ × Bool) (sm : Int → Bool) : σ × Int → Sc × Tm → (σ × Int) × Bool := fun z p =>
 if (qbb st z.1 (qcA sm p.1 p.2 z.2)).2 then (((qbb st z.1 (qcA sm p.1 p.2 z.2)).1, qa7 .i64 (z.2 + 1)), true) else (((qbb st z.1 (qcA sm p.1 p.2 z.2)).1, z.2), false)
theorem qqT {σ : Type} (st : σ → Of → σ × Bool) (sm : Int → Bool) : ∀ (l : List (Sc × Tm)) (y : σ) (a : Int), (qbb (f96 st sm) (y, a) l).1.1 = (qbb st y (qmO sm a l)).1 ∧ (qbb (f96 st sm) (y, a) l).2 = (qbb st y (qmO sm a l)).2
 | [], y, a => ⟨rfl, rfl⟩
 | p :: l, y, a => by
  simp only [qbb, qmO, qdT, f96]
  cases h : (qbb st y (qcA sm p.1 p.2 a)).2 with
  | true =>
   simp only [if_true]
   exact qqT st sm l _ _
  | false => simp only [Bool.false_eq_true, if_false, and_self]
theorem qr8 {m : Nat} (h : m < 256) : qa7 .u8 (.ofNat m) = .ofNat m := by
 show cond (Nat.blt m 256) _ _ = _
 rw [blt_iff.2 h, cond_true]
abbrev qk5 (s : ASt) : Nat × List (Nat × Nat × Nat) := (s.ntok, s.toks)
section
variable {κ σ : Type} (N0 l7 : κ → Nat) (yv someV : κ → AVal) (U : κ → σ → qaJ → qaJ → Nat × List (Nat × Nat × Nat) → Prop) (st : σ → Of → σ × Bool) (sm : Int → Bool) (OS : Tm → Prop) (live : Nat → σ → Prop)
def YC (n : Nat) : Prop := ∀ q y E H pre s (o : Of) (m : Nat), OS o.2.2 → s.heap = pre ++ H → (∀ x ∈ pre, N0 q ≤ x.1) → N0 q ≤ s.next → U q y E H (qk5 s) → live (m + 1) y →
 ∃ s' H', clv (qae CP n E) (yv q) [rwV o, o.2.2.v] s = some (bl (st y o).2, s') ∧ s'.heap = pre ++ H' ∧ s'.next = s.next ∧ U q (st y o).1 E H' (qk5 s') ∧ ((st y o).2 = true → live m (st y o).1)
def SmC (n : Nat) : Prop := ∀ q y E H pre s i, i < 22 → s.heap = pre ++ H → (∀ x ∈ pre, N0 q ≤ x.1) → U q y E H (qk5 s) → clv (qae CP n E) (someV q) [u8 (.ofNat (i + 1))] s = some (bl (sm (.ofNat (i + 1))), s)
def RuA (NS : List (Sc × Tm)) (n : Nat) : Prop := ∀ p ∈ NS, ∀ i, i < 22 → ∀ E s, cl (qae CP n E) (72 + i) [(vw p.1 p.2).v] s = some (qgR (qbH i p.1 p.2), s)
def qj7 (q : κ) (M : Nat) (a : Int) : qaJ := [(M + 2, .cells [ruV]), (M + 1, .cells [i64 a]), (M, .cells [yv q])]
def R96 (q : κ × Nat) (z : σ × Int) (E : qaJ) (s : ASt) : Prop := ∃ H, s.heap = qj7 yv q.1 q.2 z.2 ++ H ∧ s.next = q.2 + 3 ∧ N0 q.1 ≤ q.2 ∧ U q.1 z.1 E H (qk5 s)
variable {N0 l7 yv someV U st sm OS live}
theorem qvd {NS : List (Sc × Tm)} (hmono : ∀ m y, live (m + 1) y → live m y) (hU : ∀ q y E H tk, U q y E H tk → qcI E H (l7 q) = some [someV q] ∧ l7 q < N0 q) (hOS : ∀ p ∈ NS, ∀ i, i < 22 → ∀ u, qbH i p.1 p.2 = some u → OS u)
  (hy : Ev fun n => YC N0 yv U st OS live n) (hs : Ev fun n => SmC N0 someV U sm n) (hr : Ev fun n => RuA NS n) :
  Ev fun n => qtM (fun m z => live m z.1) (R96 N0 yv U) (fun q => .func 96 [] [.ptr (q.2 + 2) 0, .ptr (l7 q.1) 0, .ptr q.2 0, .ptr (q.2 + 1) 0]) (f96 st sm) NS n := by
 refine Ev.succ ((((hy.and hs).and (hr.and (Ev.ge 30)))).mono fun n ⟨⟨hy, hs⟩, hr, hn⟩ q z E s m p hp ⟨H, r1, r2, r3, r4⟩ hlv => ?_)
 rw [qg8 CP (by omega)]
 simp only [List.nil_append, List.cons_append]
 obtain ⟨q, M⟩ := q
 obtain ⟨y, a⟩ := z
 obtain ⟨x, t⟩ := p
 simp only at r1 r2 r3 r4 hlv
 suffices ∃ s', s96 (qae CP n E) n (vw x t).v (.ptr (M + 2) 0) (.ptr (l7 q) 0) (.ptr M 0) (.ptr (M + 1) 0) s = some (bl (f96 st sm (y, a) (x, t)).2, s') ∧ R96 N0 yv U (q, M) (f96 st sm (y, a) (x, t)).1 E s' ∧ ((f96 st sm (y, a) (x, t)).2 = true → live m (f96 st sm (y, a) (x, t)).1.1) by
  obtain ⟨s', e1, e2, e3⟩ := this
  refine ⟨s', ?_, e2, e3⟩
  rw [qbK]
  exact qfb (cf := cf96) (np := 5) (args' := [(vw x t).v, .ptr (M + 2) 0, .ptr (l7 q) 0, .ptr M 0, .ptr (M + 1) 0]) (v := bl (f96 st sm (y, a) (x, t)).2) (by kernel_rfl) (by kernel_rfl) rfl rfl rfl ((s96_eq _ _ _ _ _ _ _ _).trans e1) rfl rfl
 have hpre : ∀ b : Int, ∀ v ∈ qj7 yv q M b, N0 q ≤ v.1 := by
  intro b v hv
  simp only [qj7, List.mem_cons, List.not_mem_nil, or_false] at hv
  rcases hv with rfl | rfl | rfl <;> simp only <;> omega
 have c2 : ∀ (s : ASt) H, s.heap = qj7 yv q M a ++ H → qak (qae CP n E).E s (M + 2) = some [ruV] := fun s H h => by rw [qaQ]; exact qaV h
 have c1 : ∀ (s : ASt) H, s.heap = qj7 yv q M a ++ H → qak (qae CP n E).E s (M + 1) = some [i64 a] := fun s H h => by
  rw [qaQ, qbc h (by omega)]
  exact qaV (s := { s with heap := (M + 1, .cells [i64 a]) :: (M, .cells [yv q]) :: H }) rfl
 have c0 : ∀ (s : ASt) H, s.heap = qj7 yv q M a ++ H → qak (qae CP n E).E s M = some [yv q] := fun s H h => by
  have h' : s.heap = (M + 1 + 1, .cells [ruV]) :: (M + 1, .cells [i64 a]) :: (M, .cells [yv q]) :: H := h
  rw [qaQ, qhG h' (by omega)]
  exact qaV (s := ⟨0, (M, .cells [yv q]) :: H, 0, []⟩) rfl
 have c7 : ∀ (s : ASt) H y, s.heap = qj7 yv q M a ++ H → U q y E H (qk5 s) → qak (qae CP n E).E s (l7 q) = some [someV q] := fun s H y h hu => by
  obtain ⟨h1, h2⟩ := hU q y E H _ hu
  rw [qaQ, qew h fun v hv => by have := hpre a v hv; omega]
  exact h1
 have one : ∀ v : AVal, ldL [v] 0 none = some v := fun _ => rfl
 unfold s96
 simp only [ldP (c2 s H r1), one, qax, Option.bind_some, qc8]
 unfold s96_2
 generalize hF : (fun (h16 : AVal → Nat → Nat → List AVal → List AVal → List AVal → ASt → Res) (x9 : AVal) (g10 g11 : Nat) (c12 c13 c14 : List AVal) (s15 : ASt) => _) = F
 have key : ∀ (r : List Nat) (j k g g' : Nat) (c c' : List AVal) (y : σ) (s : ASt) (H : qaJ), ruL.drop j = r → j + r.length = 22 → r.length < k → s.heap = qj7 yv q M a ++ H → s.next = M + 3 → U q y E H (qk5 s) → live (m + r.length) y →
   ∃ s', lp (fun _ _ _ _ _ _ _ => none) F k (i64 (.ofNat j)) g g' (vw x t).c c c' s = some (bl (qbb st y (r.filterMap fun i => if sm (.ofNat (i + 1)) then (qbH i x t).map fun u => ((.ofNat (i + 1) : Int), a, u) else none)).2, s') ∧
    ((qbb st y (r.filterMap fun i => if sm (.ofNat (i + 1)) then (qbH i x t).map fun u => ((.ofNat (i + 1) : Int), a, u) else none)).2 = true → R96 N0 yv U (q, M) ((qbb st y (r.filterMap fun i => if sm (.ofNat (i + 1)) then (qbH i x t).map fun u => ((.ofNat (i + 1) : Int), a, u) else none)).1, qa7 .i64 (a + 1)) E s' ∧ live m (qbb st y (r.filterMap fun i => if sm (.ofNat (i + 1)) then (qbH i x t).map fun u => ((.ofNat (i + 1) : Int), a, u) else none)).1) ∧
    ((qbb st y (r.filterMap fun i => if sm (.ofNat (i + 1)) then (qbH i x t).map fun u => ((.ofNat (i + 1) : Int), a, u) else none)).2 = false → R96 N0 yv U (q, M) ((qbb st y (r.filterMap fun i => if sm (.ofNat (i + 1)) then (qbH i x t).map fun u => ((.ofNat (i + 1) : Int), a, u) else none)).1, a) E s') := by
  intro r
  induction r with
  | nil =>
   intro j k g g' c c' y s H h1 h2 hk r1 r2 r4 hlv
   obtain ⟨k, rfl⟩ : ∃ m, k = m + 1 := ⟨k - 1, by simp only [List.length_nil] at hk; omega⟩
   rw [qbj]
   generalize lp _ F k = L
   subst hF
   have hj : j = 22 := by simpa using h2
   subst hj
   have hnl : ¬ (Int.ofNat 22 < Int.ofNat 22) := by omega
   have b2 : Nat.beq (M + 2) (M + 1) = false := beq_false (by omega)
   have hst : stH s (.ptr (M + 1) 0) [i64 (qa7 .i64 (a + 1))] = some { s with heap := qj7 yv q M (qa7 .i64 (a + 1)) ++ H } := by
    have ho : over [i64 a] 0 [i64 (qa7 .i64 (a + 1))] = some [i64 (qa7 .i64 (a + 1))] := rfl
    have haw : [i64 (qa7 .i64 (a + 1))].all qaK = true := rfl
    simp only [stH, qbs, r1, qj7, List.cons_append, List.nil_append, qan, qaE, b2, qaz rfl, cond_true, cond_false, haw, ho, Option.bind_some, Option.map_some]
   refine ⟨{ s with heap := qj7 yv q M (qa7 .i64 (a + 1)) ++ H }, ?_, fun _ => ⟨⟨H, rfl, r2, r3, r4⟩, hlv⟩, fun h => by cases h⟩
   simp only [hnl, ldP (c1 s H r1), one, qbd, hst, List.filterMap_nil, qbb, qbR, qag, qaD, qaG, decide_false, qaa, cond_false, qav, Option.map_some, Option.bind_some, cnd]
  | cons i r ih =>
   intro j k g g' c c' y s H h1 h2 hk r1 r2 r4 hlv
   obtain ⟨k, rfl⟩ : ∃ m, k = m + 1 := ⟨k - 1, by simp only [List.length_cons] at hk; omega⟩
   simp only [List.length_cons] at h2 hk
   have hj22 : j < 22 := by omega
   have hij : i = j ∧ ruL.drop (j + 1) = r := by
    have hg := qiH hj22
    have hjl : j < ruL.length := hj22
    rw [List.drop_eq_getElem_cons hjl] at h1
    injection h1 with e1 e2
    rw [List.getElem?_eq_getElem hjl, Option.some.injEq] at hg
    exact ⟨e1.symm.trans hg, e2⟩
   obtain ⟨rfl, hrd⟩ := hij
   have hlt : Int.ofNat i < Int.ofNat 22 := of_lt.2 hj22
   have hia : iaV 2 ruV (i64 (.ofNat i)) = some (qaY ruC ruL, i * 2) := qca (c := ruC) (sz := 2) (l := ruL) hj22
   have hld : ∀ s, ldH (qae CP n E) s (.elem (qaY ruC ruL) (i * 2)) (some 2) = some (.agg [.p (.str (nm i)), .p (.func (72 + i) [] [])]) := fun s => qdP (c := ruC) (sz := 2) (fun _ => rfl) _ s (qiH hj22)
   have hw := qa1 (show i < 9223372036854775807 by omega)
   have hw8 := qr8 (show i + 1 < 256 by omega)
   have hsm := hs q y E H (qj7 yv q M a) s i hj22 r1 (hpre a) r4
   have hru := hr (x, t) hp i hj22 E s
   have ho2 : ∀ a b c d : AVal, over [a, b] 0 [c, d] = some [c, d] := fun _ _ _ _ => rfl
   have hl1 : ∀ a b : AVal, ldL [a, b] 1 none = some b := fun _ _ => rfl
   have hclf : ∀ args s, clv (qae CP n E) (.p (.func (72 + i) [] [])) args s = cl (qae CP n E) (72 + i) args s := fun args s => qeO CP (by omega) E _ args s
   have cl2 : ∀ a b : AVal, AVal.cells (some 2) (.agg [a, b]) = some [a, b] := fun _ _ => rfl
   cases hsmi : sm (.ofNat (i + 1)) with
   | false =>
    rw [hsmi] at hsm
    have hnext := ih (i + 1) k (g + 1) g' [.p (.str (nm i)), .p (.func (72 + i) [] [])] c' y s H hrd (by omega) (by omega) r1 r2 r4 (hmono _ _ hlv)
    have hfm : (List.filterMap (fun i => if sm (.ofNat (i + 1)) then (qbH i x t).map fun u => ((.ofNat (i + 1) : Int), a, u) else none) (i :: r)) = r.filterMap fun i => if sm (.ofNat (i + 1)) then (qbH i x t).map fun u => ((.ofNat (i + 1) : Int), a, u) else none := by
     rw [List.filterMap_cons_none]; simp only [hsmi, Bool.false_eq_true, if_false]
    rw [hfm]
    obtain ⟨s', e1, e2, e3⟩ := hnext
    refine ⟨s', ?_, e2, e3⟩
    rw [qbj]
    generalize lp _ F k = L at e1 ⊢
    subst hF
    unfold s96_0
    simp only [hlt, hia, hld, cl2, ho2, Nat.beq_refl, hw, qlP, hw8, ldP (c7 s H y r1 r4), one, hsm, qbR, qag, qaD, qaG, decide_true, Bool.not_false, qaa, cond_true, qav, Option.map_some, Option.bind_some, qab, qau, cnd]
    exact e1
   | true =>
    rw [hsmi] at hsm
    cases hrl : qbH i x t with
    | none =>
     rw [hrl] at hru
     have hnext := ih (i + 1) k (g + 1) (g' + 1) [.p (.str (nm i)), .p (.func (72 + i) [] [])] Tm.z.c y s H hrd (by omega) (by omega) r1 r2 r4 (hmono _ _ hlv)
     have hfm : (List.filterMap (fun i => if sm (.ofNat (i + 1)) then (qbH i x t).map fun u => ((.ofNat (i + 1) : Int), a, u) else none) (i :: r)) = r.filterMap fun i => if sm (.ofNat (i + 1)) then (qbH i x t).map fun u => ((.ofNat (i + 1) : Int), a, u) else none := by
      rw [List.filterMap_cons_none]; simp only [hsmi, hrl, if_true, Option.map_none]
     rw [hfm]
     obtain ⟨s', e1, e2, e3⟩ := hnext
     refine ⟨s', ?_, e2, e3⟩
     rw [qbj]
     generalize lp _ F k = L at e1 ⊢
     subst hF
     unfold s96_1 s96_0
     simp only [hlt, hia, hld, cl2, ho2, hl1, Nat.beq_refl, hw, qlP, hw8, ldP (c7 s H y r1 r4), one, hsm, hclf, hru, qal, qaC, qbR, qag, qaD, qaG, decide_true, Bool.not_true, qaa, cond_true, cond_false, qav, Option.map_some, Option.bind_some, qab, qai, qar, qas, qau, cnd, qay, Option.getD_none, Option.isSome_none]
     exact e1
    | some u =>
     rw [hrl] at hru
     have hyc := hy q y E H (qj7 yv q M a) s (.ofNat (i + 1), a, u) (m + r.length) (hOS (x, t) hp i hj22 u hrl) r1 (hpre a) (by omega) r4 hlv
     obtain ⟨s1, H1, y1, y2, y3, y4, y5⟩ := hyc
     have y1' : clv (qae CP n E) (yv q) [.agg [u8 (.ofNat (i + 1)), i64 a], u.v] s = some (bl (st y (.ofNat (i + 1), a, u)).2, s1) := y1
     have hbd : bd [u8 0, i64 0] [(0, none, .c (u8 (.ofNat (i + 1)))), (1, none, .c (i64 a))] = some (.agg [u8 (.ofNat (i + 1)), i64 a]) := rfl
     have hfm : (List.filterMap (fun i => if sm (.ofNat (i + 1)) then (qbH i x t).map fun u => ((.ofNat (i + 1) : Int), a, u) else none) (i :: r)) = (.ofNat (i + 1), a, u) :: r.filterMap fun i => if sm (.ofNat (i + 1)) then (qbH i x t).map fun u => ((.ofNat (i + 1) : Int), a, u) else none := by
      rw [List.filterMap_cons_some]; simp only [hsmi, hrl, if_true, Option.map_some]
     rw [hfm]
     simp only [qbb]
     cases hb : (st y (.ofNat (i + 1), a, u)).2 with
     | false =>
      rw [hb] at y1'
      refine ⟨s1, ?_, fun h => by simp at h, fun _ => ?_⟩
      ·rw [qbj]
       generalize lp _ F k = L
       subst hF
       unfold s96_1
       simp only [hlt, hia, hld, cl2, ho2, hl1, Nat.beq_refl, hw, qlP, hw8, ldP (c7 s H y r1 r4), ldP (c0 s H r1), ldP (c1 s H r1), one, hsm, hclf, hru, hbd, y1', Bool.false_eq_true, if_false, qal, qaZ, qaC, qbR, qag, qaD, qaG, decide_true, Bool.not_true, Bool.not_false, qaa, cond_true, cond_false, qav, Option.map_some, Option.bind_some, qab, qai, qar, qas, qau, cnd, qay, Option.getD_some, Option.isSome_some]
      ·simp only [Bool.false_eq_true, if_false]
       exact ⟨H1, y2, y3.trans r2, r3, y4⟩
     | true =>
      rw [hb] at y1'
      simp only [if_true]
      have hnext := ih (i + 1) k (g + 1) (g' + 1) [.p (.str (nm i)), .p (.func (72 + i) [] [])] u.c (st y (.ofNat (i + 1), a, u)).1 s1 H1 hrd (by omega) (by omega) y2 (y3.trans r2) y4 (y5 hb)
      obtain ⟨s', e1, e2, e3⟩ := hnext
      refine ⟨s', ?_, e2, e3⟩
      rw [qbj]
      generalize lp _ F k = L at e1 ⊢
      subst hF
      unfold s96_1 s96_0
      simp only [hlt, hia, hld, cl2, ho2, hl1, Nat.beq_refl, hw, qlP, hw8, ldP (c7 s H y r1 r4), ldP (c0 s H r1), ldP (c1 s H r1), one, hsm, hclf, hru, hbd, y1', qal, qaZ, qaC, qbR, qag, qaD, qaG, decide_true, Bool.not_true, qaa, cond_true, cond_false, qav, Option.map_some, Option.bind_some, qab, qai, qar, qas, qau, cnd, qay, Option.getD_some, Option.isSome_some]
      exact e1
 obtain ⟨s', e1, e2, e3⟩ := key ruL 0 n 0 0 [] [] y s H rfl rfl (by show 22 < n; omega) r1 r2 r4 hlv
 have hoff : (ruL.filterMap fun i => if sm (.ofNat (i + 1)) then (qbH i x t).map fun u => ((.ofNat (i + 1) : Int), a, u) else none) = qcA sm x t a := rfl
 rw [hoff] at e1 e2 e3
 unfold f96
 simp only
 cases hb : (qbb st y (qcA sm x t a)).2 with
 | true =>
  rw [hb] at e1
  simp only [if_true]
  exact ⟨s', e1, (e2 hb).1, fun _ => (e2 hb).2⟩
 | false =>
  rw [hb] at e1
  simp only [Bool.false_eq_true, if_false]
  exact ⟨s', e1, e3 hb, fun h => by cases h⟩
end
end Go.AI.Tryz
namespace Go.AI
theorem qtN (s : ASt) (zs cs new : List AVal) (o : Nat) (p : HObj) (ha : cs.all qaK = true) (h : over zs o cs = some new) : stH (qaf (qaf s (.cells zs)) p) (.ptr s.next o) cs = some (qaf (qaf s (.cells new)) p) := by
 have b : Nat.beq (s.next + 1) s.next = false := Tryz.beq_false (by omega)
 unfold stH qbs qaf
 simp only [qan, qaE, b, qaz rfl, cond_true, cond_false, ha, h, Option.bind_some, Option.map_some]
end Go.AI
namespace Go.AI.Tryz
mutual
theorem qcU : ∀ (t : Tm) (x : Sc), (qbl t x).length = t.size
 | .mk k n m i ks, x => by
  simp only [qbl, List.length_cons, qhI ks, Tm.size]; omega
theorem qhI : ∀ (ks : List Tm) (sc : Nat → Sc) (j : Nat), (qbA sc j ks).length = Tm.sizeL ks
 | [], _, _ => rfl
 | u :: r, sc, j => by simp only [qbA, List.length_append, qcU u, qhI r, Tm.sizeL]
end
theorem qoD {x : Sc} {t : Tm} (h : (szF x t).2 = true) : ¬ t.k = 17 := by
 have hs := qdu h
 intro hk
 cases hs <;> first
  | (simp only [Tm.k_mk] at hk; omega)
  | (rw [qeb] at h; cases h)
theorem qr9 {x : Sc} {t : Tm} (h : Nd x t) : Ev fun n => qvv (qbl t x) n := by
 refine Ev.mono (Ev.all (P := fun (p : Sc × Tm) n => ∀ (j : Nat) u, p.2.ks[j]? = some u → ∀ E s, cl (qae CP n E) 132 [(vw p.1 p.2).v, i64 (.ofNat j)] s = some ((vw (p.1.kid p.2 j) u).v, s)) (qbl t x) fun p hp => ?_) fun n h p hp => h p hp
 obtain ⟨hn, _⟩ := qeV _ t x (Nat.le_refl _) h p hp
 have hall := Ev.all (P := fun (j : Nat) n => ∀ u, p.2.ks[j]? = some u → ∀ E s, cl (qae CP n E) 132 [(vw p.1 p.2).v, i64 (.ofNat j)] s = some ((vw (p.1.kid p.2 j) u).v, s)) (List.range p.2.ks.length) fun j hj => by
  have hjl : j < p.2.ks.length := List.mem_range.1 hj
  have hu : p.2.ks[j]? = some p.2.ks[j] := List.getElem?_eq_getElem hjl
  have := qom p.1 p.2 p.2.ks[j] j hu hn.b (fun hk _ => by
   rcases hn.w with h | ⟨b, h⟩
   ·exact absurd hk (qoD h)
   ·rcases qeU h with h | ⟨i, e, h, _⟩ | ⟨u, w, h, h1, _⟩
    ·exact absurd hk (qoD (x := p.1) (by rw [h]))
    ·rw [h] at hk; simp only [Tm.k_mk] at hk; omega
    ·exact ⟨u, by rw [h]; rfl, by rw [h1]⟩)
  refine this.mono fun n h u hu' E s => ?_
  rw [hu, Option.some.injEq] at hu'
  subst hu'
  exact h E s
 refine hall.mono fun n h j u hu E s => h j (List.mem_range.2 (List.getElem?_eq_some_iff.1 hu).1) u hu E s
theorem qqb {x : Sc} {t : Tm} (h : Nd x t) (hs : t.size ≤ 900000) : Ev fun n => RuA (qbl t x) n := by
 refine Ev.mono (Ev.all (P := fun (p : Sc × Tm) n => ∀ i, i < 22 → ∀ E s, cl (qae CP n E) (72 + i) [(vw p.1 p.2).v] s = some (qgR (qbH i p.1 p.2), s)) (qbl t x) fun p hp => ?_) fun n h p hp => h p hp
 obtain ⟨hn, hsz⟩ := qeV _ t x (Nat.le_refl _) h p hp
 have hall := Ev.all (P := fun (i : Nat) n => ∀ E s, cl (qae CP n E) (72 + i) [(vw p.1 p.2).v] s = some (qgR (qbH i p.1 p.2), s)) (List.range 22) fun i hi => qtL hn (by omega) i (List.mem_range.1 hi)
 exact hall.mono fun n h i hi => h i (List.mem_range.2 hi)
section
variable {κ σ : Type} {N0 l4 l7 : κ → Nat} {yv someV : κ → AVal} {U : κ → σ → qaJ → qaJ → Nat × List (Nat × Nat × Nat) → Prop} {st : σ → Of → σ × Bool} {sm : Int → Bool} {OS : Tm → Prop} {live : Nat → σ → Prop}
theorem qj8 {x : Sc} {t : Tm} (hnd : Nd x t) (hsz : t.size ≤ 900000) (hmono : ∀ m y, live (m + 1) y → live m y) (ha : ∀ q, qaK (yv q) = true) (hw : ∀ q, qbg (yv q) = true) (he : ∀ q, qaA (yv q) = yv q) (hce : ∀ q, AVal.cells none (yv q) = some [yv q])
  (hU : ∀ q y E H tk, U q y E H tk → qcI E H (l7 q) = some [someV q] ∧ l7 q < N0 q) (hU4 : ∀ q y E H tk, U q y E H tk → qcI E H (l4 q) = some (vw x t).c ∧ l4 q < N0 q)
  (hOS : ∀ p ∈ qbl t x, ∀ i, i < 22 → ∀ u, qbH i p.1 p.2 = some u → OS u)
  (hy : Ev fun n => YC N0 yv U st OS live n) (hs : Ev fun n => SmC N0 someV U sm n) :
  Ev fun n => ∀ q y E s, N0 q ≤ s.next → U q y E s.heap (qk5 s) → live (22 * t.size) y → ∃ s' pre' H', cl (qae CP n E) 94 [yv q, .ptr (l4 q) 0, .ptr (l7 q) 0] s = some (.tuple [], s') ∧ s'.heap = pre' ++ H' ∧ (∀ v ∈ pre', N0 q ≤ v.1) ∧ s'.next = s.next + 3 ∧ U q (qbb st y (qeW sm 0 (qbl t x))).1 E H' (qk5 s') := by
 have hwalk := qqS (κ := κ × Nat) (fun _ => rfl) (fun _ => rfl) (qvd (NS := qbl t x) hmono hU hOS hy hs (qqb hnd hsz)) (qr9 hnd) t.size (by omega)
 refine Ev.succ ((hwalk.and qoC).mono fun n ⟨h, h50⟩ q y E s hN hu hlv => ?_)
 let M := s.next
 let s16 := qaf (qaf (qaf s (.cells [yv q])) (.cells [i64 0])) (.cells [ruV])
 have hR : R96 N0 yv U (q, M) (y, 0) E s16 := ⟨s.heap, rfl, rfl, hN, hu⟩
 obtain ⟨s', e1, ⟨H', r1, r2, r3, r4⟩, _⟩ := h (q, M) t x (Nat.le_refl _) (fun p hp => hp) (y, 0) E s16 0 hR (by rw [Nat.zero_add]; exact hlv)
 have hf := qqT st sm (qbl t x) y 0
 rw [ql3 sm (qbl t x) 0 (by omega) (by rw [qcU]; omega)] at hf
 rw [hf.1] at r4
 refine ⟨s', qj7 yv q M (qbb (f96 st sm) (y, 0) (qbl t x)).1.2, H', ?_, r1, ?_, r2, r4⟩
 ·rw [qbK]
  refine qfb (cf := cf94) (np := 3) (args' := [yv q, .ptr (l4 q) 0, .ptr (l7 q) 0]) (v := .tuple []) (by kernel_rfl) (by kernel_rfl) rfl (by simp only [List.all_cons, hw]; rfl) (by simp only [List.map_cons, he]; rfl) ((s94_eq _ _ _ _ _ _).trans ?_) rfl rfl
  have haw : [yv q].all qaK = true := by simp only [List.all_cons, ha, List.all_nil, Bool.and_self]
  have hst1 : stH (qaf (qaf (qaf s (.cells [yv q])) (.cells [i64 0])) (.cells [.sl 0 [] .full])) (.ptr (qaf s (.cells [yv q])).next 0) [i64 0] = some (qaf (qaf (qaf s (.cells [yv q])) (.cells [i64 0])) (.cells [.sl 0 [] .full])) := qtN _ _ _ _ _ _ rfl rfl
  have hst2 : stH (qaf (qaf (qaf s (.cells [yv q])) (.cells [i64 0])) (.cells [.sl 0 [] .full])) (.ptr (qaf (qaf s (.cells [yv q])) (.cells [i64 0])).next 0) [ruV] = some s16 := qg9 _ _ _ _ _ rfl rfl
  have hcr : AVal.cells none ruV = some [ruV] := rfl
  obtain ⟨h4, h4l⟩ := hU4 q y E s.heap _ hu
  have hc4 : qak (qae CP n E).E s16 (l4 q) = some (vw x t).c := by
   rw [qaQ, qew (s := s16) (pre := qj7 yv q M 0) (H := s.heap) rfl]
   ·exact h4
   ·intro v hv
    simp only [qj7, List.mem_cons, List.not_mem_nil, or_false, M] at hv
    rcases hv with rfl | rfl | rfl <;> simp only <;> omega
  have e1' : cl (qae CP n E) 95 [(vw x t).v, .func 96 [] [.ptr (qaf (qaf s (.cells [yv q])) (.cells [i64 0])).next 0, .ptr (l7 q) 0, .ptr s.next 0, .ptr (qaf s (.cells [yv q])).next 0]] s16 = some (_, s') := e1
  unfold s94
  simp only [hce, haw, h50, qbd, hst1, hcr, hst2, ldP hc4, e1', qbR, Option.bind_some, qab, qaS, qba, cnd]
 ·intro v hv
  simp only [qj7, List.mem_cons, List.not_mem_nil, or_false, M] at hv
  rcases hv with rfl | rfl | rfl <;> simp only <;> omega
end
theorem qqc (y : Vw) (fv : AVal) (ha : qaK fv = true) (hw : qbg fv = true) (he : qaA fv = fv) (hce : AVal.cells none fv = some [fv]) :
  Ev fun n => ∀ E s, cl (qae CP n E) 54 [y.v, fv] s = some (.func 94 [] [.ptr s.next 0, .ptr (s.next + 1) 0], qaf (qaf s (.cells y.c)) (.cells [fv])) := by
 refine Ev.succ (Ev.of fun n E s => ?_)
 rw [qbK]
 refine qfb (cf := cf54) (np := 2) (args' := [y.v, fv]) (v := .func 94 [] [.ptr s.next 0, .ptr (s.next + 1) 0]) (by kernel_rfl) (by kernel_rfl) rfl (by simp only [List.all_cons, qcy, hw]; rfl) (by simp only [List.map_cons, qcz, he]; rfl) ((s54_eq _ _ _ _ _).trans ?_) rfl rfl
 have haw : [fv].all qaK = true := by simp only [List.all_cons, ha, List.all_nil, Bool.and_self]
 unfold s54
 simp only [hce, haw, qax, qcL, Option.bind_some, qaS, qba, cnd]
 rfl
theorem qoE {ι : Type} (y : Vw) (fv : ι → AVal) (ha : ∀ i, qaK (fv i) = true) (hw : ∀ i, qbg (fv i) = true) (he : ∀ i, qaA (fv i) = fv i) (hce : ∀ i, AVal.cells none (fv i) = some [fv i]) :
  Ev fun n => ∀ i E s, cl (qae CP n E) 54 [y.v, fv i] s = some (.func 94 [] [.ptr s.next 0, .ptr (s.next + 1) 0], qaf (qaf s (.cells y.c)) (.cells [fv i])) := by
 refine Ev.succ (Ev.of fun n i E s => ?_)
 rw [qbK]
 refine qfb (cf := cf54) (np := 2) (args' := [y.v, fv i]) (v := .func 94 [] [.ptr s.next 0, .ptr (s.next + 1) 0]) (by kernel_rfl) (by kernel_rfl) rfl (by simp only [List.all_cons, qcy, hw]; rfl) (by simp only [List.map_cons, qcz, he]; rfl) ((s54_eq _ _ _ _ _).trans ?_) rfl rfl
 have haw : [fv i].all qaK = true := by simp only [List.all_cons, ha, List.all_nil, Bool.and_self]
 unfold s54
 simp only [hce, haw, qax, qcL, Option.bind_some, qaS, qba, cnd]
 rfl
end Go.AI.Tryz
namespace Go.AI.Tryz
theorem qk6 (n : Nat) (E : qaJ) (l : Nat) (args : List AVal) (s : ASt) : (qae CP (n + 1) E).callv (.yield l) args s = qd6 (qbV CP (qae CP n) n E) (qae CP n) n E (.yield l) args s := rfl
theorem qoF {n nt nl : Nat} {E : qaJ} {ly p1 p2 : Nat} {fr : Tr AVal} {lo : Tr (Nat × List AVal)} {a b : CC} {pre HT HT2 : qaJ} {s s2 : ASt} {F0 : FL} {L : LL} {v1 v2 : AVal} {x : EX}
  (hrf : (qb8 a && qb8 b) = true) (hcs : (qhw (qeo b (qeo a 0)) a).cs = false) (h12 : p1 ≠ p2) (hp1 : p1 < nt) (hp2 : p2 < nt)
  (h : s.heap = pre ++ (ly, .loop 0 none fr lo [p1, p2] a b) :: HT) (hp : ∀ v ∈ pre, v.1 ≠ ly) (hF : ∀ t u, qan F0 t = some u → fr.get qah t = u) (hh : ∀ t, t < nt → fr.has t = true) (hL : ∀ i p, qan L i = some p → lo.get (0, []) i = p ∧ lo.has i = true) (ha : [v1, v2].all qbg = true)
  (hrun : qrv nt nl (qae CP n E) n a b (fun s => { s with heap := pre ++ (ly, .loop 1 none fr lo [p1, p2] a b) :: HT }) ((p1, v1) :: (p2, v2) :: F0) L s = some (qjS x, s2)) (h2 : s2.heap = pre ++ (ly, .loop 1 none fr lo [p1, p2] a b) :: HT2) :
  clv (qae CP (n + 1) E) (.yield ly) [v1, v2] s = some (bl (qiW x), { s2 with heap := pre ++ (ly, .loop (qm6 x) (qd5 x) fr lo [p1, p2] a b) :: HT2 }) := by
 rw [qgs, qk6]
 have hbe : Nat.beq ly ly = true := qaz rfl
 have g1 : ∀ (o : HObj) (H : qaJ), qan (pre ++ (ly, o) :: H) ly = some o := fun o H => by
  rw [qdh hp]
  simp only [qan, hbe, cond_true]
 have g2 : ∀ (o o' : HObj) (H : qaJ), qaE (pre ++ (ly, o) :: H) ly o' = some (pre ++ (ly, o') :: H) := fun o o' H => by
  rw [qc3 hp]
  simp only [qaE, hbe, cond_true, Option.map_some]
 let f1 := (fr.set p1 v1).set p2 v2
 have hf1 : qdb fr [p1, p2] [v1, v2] = some f1 := rfl
 have ag : AG nt ((p1, v1) :: (p2, v2) :: F0) L [] ⟨f1, lo, [], some ly, s⟩ := by
  refine ⟨fun t u hu => ?_, fun i p hi => hL i p hi, fun d l hd => (by cases hd), fun t ht => ?_⟩
  ·show ((fr.set p1 v1).set p2 v2).get qah t = u
   rw [Tr.get_set _ _ _ _ _ (by rw [Tr.has_set]; exact hh p2 hp2), Tr.get_set _ _ _ _ _ (hh p1 hp1)]
   rw [qaj] at hu
   split at hu
   ·rename_i e
    subst e
    rw [if_neg (fun e => h12 e.symm), if_pos rfl]
    simpa using hu
   ·rename_i e
    rw [qaj] at hu
    split at hu
    ·rename_i e2
     rw [if_pos e2]
     simpa using hu
    ·rename_i e2
     rw [if_neg e2, if_neg e]
     exact hF t u hu
  ·show ((fr.set p1 v1).set p2 v2).has t = true
   rw [Tr.has_set, Tr.has_set]
   exact hh t ht
 obtain ⟨ca, cb, k1, k2, k3, k4⟩ := qtb hrf hcs ag hrun
 have k2' : ca.s = s := k2
 simp only [qd6, h, g1, ha, cond_true, hf1, Option.bind_some, k1, k2', g2]
 have k3' : qa8 (qae CP n E) n b { ca with s := { s with heap := pre ++ (ly, .loop 1 none fr lo [p1, p2] a b) :: HT } } = some (x, cb) := k3
 simp only [k3', Option.bind_some, endRound, k4, h2, g1, g2, Option.map_some]
theorem qqd (l : Tr (Nat × List AVal)) (i : Nat) : (l.map fun _ => ((0, []) : Nat × List AVal)).get (0, []) i = (0, []) := Tr.get_map (fun _ => ((0, []) : Nat × List AVal)) (0, []) l i
theorem qsa (f : Tr AVal) (i : Nat) : (f.map far).get qah i = far (f.get qah i) := Tr.get_map far qah f i
theorem qtO {n n' nt : Nat} {E : qaJ} {l4 l7 : Nat} {ps : List Nat} {a b : CC} {F : FL} {L : LL} {s : ASt} {kn kx kr : ASt → Res} {r : AVal} (hn : 1 ≤ n)
  (hrun : ∀ (fr : Tr AVal) (lo : Tr (Nat × List AVal)), (∀ t u, qan F t = some u → fr.get qah t = far u) → (∀ t, t < nt → fr.has t = true) → (∀ i, lo.get (0, []) i = (0, [])) → (∀ i p, qan L i = some p → lo.has i = true) →
   ∃ x s' pre' HT s2 r', cl (qae CP n E) 94 [.yield s.next, .ptr l4 0, .ptr l7 0] (qaf s (.loop 0 none fr lo ps a b)) = some (.tuple [], s') ∧ s'.heap = pre' ++ (s.next, .loop (qm6 x) (qd5 x) fr lo ps a b) :: HT ∧ (∀ v ∈ pre', v.1 ≠ s.next) ∧ qaA r' = r ∧ (match x with
    | .normal => kn { s' with heap := pre' ++ (s.next, .gone) :: HT } = some (r', s2)
    | .exit i => i = exB b ∧ kx { s' with heap := pre' ++ (s.next, .gone) :: HT } = some (r', s2)
    | .ret => kr { s' with heap := pre' ++ (s.next, .gone) :: HT } = some (r', s2))) :
  qmz (qae CP n E) n' nt (.func 94 [] [.ptr l4 0, .ptr l7 0]) ps a b F L s kn kx kr r := by
 intro c f hF hL hh hv hs hrd
 obtain ⟨x, s', pre', HT, s2, r', h1, h2, h3, her, h4⟩ := hrun (c.f.map far) (c.l.map fun _ => (0, [])) (fun t u hu => by rw [qsa, hF t u hu]) (fun t ht => by rw [Tr.has_map]; exact hh t ht) (qqd c.l) (fun i p hi => by rw [Tr.has_map]; exact hL i p hi)
 refine ⟨x, { s' with heap := pre' ++ (s.next, .gone) :: HT }, s2, r', ?_, her, h4⟩
 have hbe : Nat.beq s.next s.next = true := qaz rfl
 have g1 : qan (pre' ++ (s.next, HObj.loop (qm6 x) (qd5 x) (c.f.map far) (c.l.map fun _ => (0, [])) ps a b) :: HT) s.next = some (.loop (qm6 x) (qd5 x) (c.f.map far) (c.l.map fun _ => (0, [])) ps a b) := by
  rw [qdh h3]
  simp only [qan, hbe, cond_true]
 have g2 : qaE (pre' ++ (s.next, HObj.loop (qm6 x) (qd5 x) (c.f.map far) (c.l.map fun _ => (0, [])) ps a b) :: HT) s.next .gone = some (pre' ++ (s.next, .gone) :: HT) := by
  rw [qc3 h3]
  simp only [qaE, hbe, cond_true, Option.map_some]
 have hil : qiX c = true := by unfold qiX; rw [hrd]
 have hcv : (qae CP n E).callv (.func 94 [] [.ptr l4 0, .ptr l7 0]) [.yield s.next] (qaf s (.loop 0 none (c.f.map far) (c.l.map fun _ => (0, [])) ps a b)) = some (.tuple [], s') := by
  have := qg8 CP hn E 94 [] [.ptr l4 0, .ptr l7 0] [.yield s.next] (qaf s (.loop 0 none (c.f.map far) (c.l.map fun _ => (0, [])) ps a b))
  rw [qgs] at this
  rw [this]
  exact h1
 have hst : Nat.beq (qm6 x) 1 = false := by cases x <;> rfl
 unfold qa8
 rw [hil, hv, hs]
 simp only [qsF, Bool.and_self, cond_true, hcv, Option.bind_some, h2, g1, hst, cond_false, g2]
 cases x <;> rfl
theorem ql4 (d : Nat) : ∀ (F : FL), (∀ p ∈ F, p.1 < 2 ^ d - 1) → ∃ fr : Tr AVal, (∀ t u, qan F t = some u → fr.get qah t = u) ∧ ∀ t, t < 2 ^ d - 1 → fr.has t = true
 | [], _ => ⟨Tr.mk qah d, fun t u h => (by cases h), fun t ht => Tr.has_mk _ _ _ (by omega)⟩
 | (k, v) :: F, h => by
  obtain ⟨fr, h1, h2⟩ := ql4 d F fun p hp => h p (List.mem_cons_of_mem _ hp)
  refine ⟨fr.set k v, fun t u hu => ?_, fun t ht => by rw [Tr.has_set]; exact h2 t ht⟩
  rw [Tr.get_set _ _ _ _ _ (h2 k (h (k, v) (List.mem_cons_self ..)))]
  rw [qaj] at hu
  split at hu
  ·rename_i e
   rw [if_pos e]
   simpa using hu
  ·rename_i e
   rw [if_neg e]
   exact h1 t u hu
theorem qqU {e : Env} {n nt : Nat} {v : AVal} {ps : List Nat} {a b : CC} {F : FL} {L : LL} {s : ASt} {kn kx kr : ASt → Res} {r : AVal} (d dl : Nat) (hF : ∀ p ∈ F, p.1 < 2 ^ d - 1) (hn : nt ≤ 2 ^ d - 1) (hL : ∀ p ∈ L, p.1 < 2 ^ dl - 1) (h : qmz e n nt v ps a b F L s kn kx kr r) :
  rfK e n nt v ps a b F L s kn kx kr = some (r, s) := by
 have hex : ∃ r, qmz e n nt v ps a b F L s kn kx kr r := ⟨r, h⟩
 unfold rfK
 rw [dif_pos hex]
 have h2 := hex.choose_spec
 obtain ⟨fr, f1, f2⟩ := ql4 d F hF
 have hlo : ∀ i p, qan L i = some p → (Tr.mk ((0, []) : Nat × List AVal) dl).has i = true := fun i p hi => Tr.has_mk _ _ _ (by
  have := hL (i, p) (by
   have : ∀ (L : LL), qan L i = some p → (i, p) ∈ L := by
    intro L
    induction L with
    | nil => intro h; cases h
    | cons q L ih =>
     intro h
     obtain ⟨k, w⟩ := q
     rw [qaj] at h
     split at h
     ·rename_i e
      subst e
      simp only [Option.some.injEq] at h
      subst h
      exact List.mem_cons_self ..
     ·exact List.mem_cons_of_mem _ (ih h)
   exact this L hi)
  simp only at this
  omega)
 obtain ⟨x, s', s2, r', k1, k2, k3⟩ := h ⟨fr, Tr.mk (0, []) dl, [], none, s⟩ (.c v) f1 hlo (fun t ht => f2 t (by omega)) rfl rfl rfl
 obtain ⟨y, t', t2, q', m1, m2, m3⟩ := h2 ⟨fr, Tr.mk (0, []) dl, [], none, s⟩ (.c v) f1 hlo (fun t ht => f2 t (by omega)) rfl rfl rfl
 rw [k1] at m1
 simp only [Option.some.injEq, Prod.mk.injEq] at m1
 obtain ⟨rfl, hs⟩ := m1
 injection hs with _ _ _ _ hs
 subst hs
 have hq : r' = q' := by
  cases x with
  | normal => simp only at k3 m3; rw [k3] at m3; simp only [Option.some.injEq, Prod.mk.injEq] at m3; exact m3.1
  | exit i => simp only at k3 m3; have := k3.2; rw [m3.2] at this; simp only [Option.some.injEq, Prod.mk.injEq] at this; exact this.1.symm
  | ret => simp only at k3 m3; rw [k3] at m3; simp only [Option.some.injEq, Prod.mk.injEq] at m3; exact m3.1
 rw [← k2, ← m2, hq]
end Go.AI.Tryz
namespace Go.AI
theorem qfE {s : ASt} {pre H : qaJ} {l o : Nat} {zs cs new : List AVal} (h : s.heap = pre ++ (l, .cells zs) :: H) (hp : ∀ v ∈ pre, v.1 ≠ l) (ha : cs.all qaK = true) (ho : over zs o cs = some new) : stH s (.ptr l o) cs = some { s with heap := pre ++ (l, .cells new) :: H } := by
 unfold stH qbs
 have hbe : Nat.beq l l = true := qaz rfl
 simp only [h, qdh hp, qc3 hp, qan, qaE, hbe, cond_true, ha, ho, Option.bind_some, Option.map_some]
theorem qbE {E : qaJ} {s : ASt} {pre H : qaJ} {l : Nat} {cs : List AVal} (h : s.heap = pre ++ (l, .cells cs) :: H) (hp : ∀ v ∈ pre, v.1 ≠ l) : qak E s l = some cs := by
 unfold qak
 have hbe : Nat.beq l l = true := qaz rfl
 simp only [h, qdh hp, qan, hbe, cond_true]
end Go.AI
namespace Go.AI.Tryz
theorem qqV (a : Ar) (t : Tm) (h1 : a.ids.length ≤ 100000) : PC CP 65 [a.v, t.v] (vw (qaH a) t).v := by
 refine PC.of2 (cf := cf65) (np := 2) (args' := [a.v, t.v]) (by kernel_rfl) (by kernel_rfl) rfl (by simp only [List.all_cons, qam]; rfl) (by simp only [List.map_cons, qao]; rfl) (fun _ => rfl) ((Ev.ge (a.ids.length + 1)).mono fun n hn E s => ?_)
 let sz : List Int := a.ids.map fun t => t.res.n
 let f : Nat → List PVal := fun j => qaY qe0 (sz.take j)
 have hszl : sz.length = a.ids.length := by simp only [sz, List.length_map]
 let fin : AVal := .agg [u8 t.k, i64 t.n, i64 t.m, i64 t.i, kv t.ks, qey f s.ntok a.ids.length, i64 (.ofNat a.ids.length)]
 suffices ∃ s', s65 (qae CP n E) n a.v t.v s = some (fin, s') by
  obtain ⟨s', e⟩ := this
  refine ⟨fin, s', (s65_eq _ _ _ _ _).trans e, ?_⟩
  have he1 : qbM (qey f s.ntok a.ids.length) = .p (.sl a.ids.length (f a.ids.length)) := qdf f _ _ rfl
  have he2 : (vw (qaH a) t).sz = sz := by
   simp only [vw, qaH, sz, List.map_map]
   rfl
  have he3 : f a.ids.length = qaY qe0 sz := by
   show qaY qe0 (sz.take a.ids.length) = _
   rw [← hszl, List.take_length]
  show AVal.agg [_, _, _, _, _, qbM (qey f s.ntok a.ids.length), _] = AVal.agg [_, _, _, _, _, iv (vw (qaH a) t).sz, _]
  rw [he1, he2, he3, iv, hszl]
  rfl
 have hav : AVal.cells (some 4) a.v = some [.p (.sl a.ids.length (qaY Ty.cells a.ids)), bl a.root.cell, i64 a.root.n, bl a.jumps] := rfl
 have hbd : bd [u8 0, i64 0, i64 0, i64 0, .sl 0 [] .full, .sl 0 [] .full, i64 0] [(0, some 5, .c t.v), (6, none, .c (i64 (.ofNat a.ids.length)))] = some (.agg [u8 t.k, i64 t.n, i64 t.m, i64 t.i, kv t.ks, .sl 0 [] .full, i64 (.ofNat a.ids.length)]) := by rw [Tm.v_eq]; rfl
 unfold s65
 simp only [hav, hbd, qb9, qn1, qn2, qal, qaZ, Option.bind_some, qc8]
 unfold s65_0
 generalize hF : (fun (h21 : AVal → Nat → List AVal → List AVal → List AVal → List AVal → List AVal → ASt → Res) (x13 : AVal) (g14 : Nat) (c15 c16 c17 c18 c19 : List AVal) (s20 : ASt) => _) = F
 have key : ∀ k (j g : Nat) (c : List AVal), j ≤ a.ids.length → a.ids.length - j < k → ∃ s', lp (fun _ _ _ _ _ _ _ _ => none) F k (i64 (.ofNat j)) g [.p (.sl a.ids.length (qaY Ty.cells a.ids)), bl a.root.cell, i64 a.root.n, bl a.jumps] t.c [u8 0, i64 0, i64 0, i64 0, .sl 0 [] .full, .sl 0 [] .full, i64 0]
   [u8 t.k, i64 t.n, i64 t.m, i64 t.i, kv t.ks, qey f s.ntok j, i64 (.ofNat a.ids.length)] c (qit s 1 j) = some (fin, s') := by
  intro k
  induction k with
  | zero => intro j g c _ h; omega
  | succ k ih =>
   intro j g c hj hk
   rcases Nat.lt_or_ge j a.ids.length with h | h
   ·have hkj : a.ids[j]? = some a.ids[j] := List.getElem?_eq_getElem h
    have hld : ∀ s, ldH (qae CP n E) s (.elem (qaY Ty.cells a.ids) (j * 3)) (some 3) = some a.ids[j].v := fun s => qdP (c := Ty.cells) (sz := 3) (fun _ => rfl) _ s hkj
    have hsj : j < sz.length := by rw [hszl]; exact h
    have hszj : sz[j] = a.ids[j].res.n := by simp only [sz, List.getElem_map]
    have hap := qjU (qae CP n E) (sz := 1) (b := 8) (f := f) (y := .sl 1 (qe0 a.ids[j].res.n) .full) s j rfl rfl (by omega) (by
     have := qct (c := qe0) hsj
     rw [hszj] at this
     exact this)
    have hms : ms 1 [.int .i64 0] [(0, none, .c (i64 a.ids[j].res.n))] = some (.sl 1 (qe0 a.ids[j].res.n) .full) := rfl
    have hcv : AVal.cells none (qey f s.ntok (j + 1)) = some [qey f s.ntok (j + 1)] := rfl
    have hl5 : ∀ a b c d e f g : AVal, ldL [a, b, c, d, e, f, g] 5 none = some f := fun _ _ _ _ _ _ _ => rfl
    have ho5 : ∀ a b c d e f g h : AVal, over [a, b, c, d, e, f, g] 5 [h] = some [a, b, c, d, e, h, g] := fun _ _ _ _ _ _ _ _ => rfl
    obtain ⟨s', e⟩ := ih (j + 1) (g + 1) [.p (.sl a.ids[j].ps.length (qaY Bs.cells a.ids[j].ps)), bl a.ids[j].res.cell, i64 a.ids[j].res.n] (by omega) (by omega)
    refine ⟨s', ?_⟩
    rw [qbj]
    generalize lp _ F k = L at e ⊢
    subst hF
    simp only [of_lt.2 h, qca h, hld, Ty.v_cells3, qkK, Nat.beq_refl, hl5, qry, hms, hap, hcv, ho5, qa1 (show j < 9223372036854775807 by omega), qag, qaD, qaG, decide_true, qaa, cond_true, Option.map_some, Option.bind_some, qab, cnd]
    exact e
   ·have : j = a.ids.length := by omega
    subst this
    have h3 : ¬ (Int.ofNat a.ids.length < Int.ofNat a.ids.length) := fun h => Nat.lt_irrefl _ (of_lt.1 h)
    refine ⟨qit s 1 a.ids.length, ?_⟩
    rw [qbj]
    generalize lp _ F k = L
    subst hF
    simp only [h3, qte, qn1, qn2, qag, qaD, qaG, decide_false, qaa, cond_false, Option.map_some, Option.bind_some, cnd]
    rfl
 obtain ⟨s', e⟩ := key n 0 0 [] (Nat.zero_le _) (by omega)
 exact ⟨s', e⟩
theorem qhJ (a : Ar) (t : Tm) (oa : a.Ok) (ok : t.Ok) (h1 : a.ids.length ≤ 100000) (hs : t.size ≤ 100000) : PC CP 40 [a.v, t.v] (.tuple [(vw (qaH a) t).v, i64 (qbG a t)]) := by
 refine PC.of2 (cf := cf40) (np := 2) (args' := [a.v, t.v]) (by kernel_rfl) (by kernel_rfl) rfl (by simp only [List.all_cons, qam]; rfl) (by simp only [List.map_cons, qao]; rfl) (fun _ => rfl) (((qqV a t h1).and (qoh a t oa ok h1 hs)).mono fun n ⟨h, h'⟩ E s => ⟨.tuple [(vw (qaH a) t).v, i64 (qbG a t)], s, (s40_eq _ _ _ _ _).trans ?_, rfl⟩)
 have hav : AVal.cells (some 4) a.v = some [.p (.sl a.ids.length (qaY Ty.cells a.ids)), bl a.root.cell, i64 a.root.n, bl a.jumps] := rfl
 have hal : ldL [.p (.sl a.ids.length (qaY Ty.cells a.ids)), bl a.root.cell, i64 a.root.n, bl a.jumps] 0 (some 4) = some a.v := rfl
 unfold s40
 simp only [hav, hal, h, h', qal, qaZ, qax, qbR, qgE, Option.bind_some, qab]
theorem every_u : UC 42 (fun k : Int => [u8 k]) (fun _ _ _ => True) (fun _ => bl true) :=
 UC.of (cf := cf42) (np := 1) (by kernel_rfl) (by kernel_rfl) (fun _ => rfl) (fun _ => rfl) (fun _ => rfl) (fun _ => Stab.pure _) (fun _ _ => rfl) (Ev.of fun n p E s _ => ⟨bl true, s, (s42_eq _ _ _ _).trans rfl, rfl⟩)
theorem qiI {a : Ar} {t : Tm} (h : qbG a t = 0) (ok : t.Ok) (h1 : a.ids.length ≤ 100000) (hs : t.size ≤ 100000) : Nd (qaH a) t := by
 unfold qbG at h
 split at h
 ·rename_i h0; exact absurd h h0
 ·rename_i h0
  have h0 : qc0 a = 0 := by simpa using h0
  split at h
  ·omega
  ·split at h
   ·rename_i hA
    refine ⟨.inr ⟨a.root, hA⟩, ⟨by simp only [qaH, List.length_map]; omega, by simp only [qaH]; omega, by simp only [qaH]; omega⟩, ok, fun e he => ?_⟩
    simp only [qaH, List.mem_map] at he
    obtain ⟨ty, hty, rfl⟩ := he
    have : qd8 ty = true := by
     unfold qc0 at h0
     split at h0
     ·omega
     ·split at h0
      ·omega
      ·rename_i h2
       simp only [Bool.not_eq_true, Bool.or_eq_false_iff] at h2
       have := List.any_eq_false.1 h2.2 ty hty
       simpa using this
    simp only [qd8, Bool.and_eq_true, qb2, decide_eq_true_eq] at this
    exact this.1
   ·omega
end Go.AI.Tryz
namespace Go.AI.Tryz
abbrev Rw := Int × Int
def rwC (p : Rw) : List PVal := [.int .u8 p.1, .int .i64 p.2]
def qbu (tok : Nat) : List Rw → AVal
 | [] => .sl 0 [] .full
 | a :: r => .sl (r.length + 1) (qaY rwC (a :: r)) (.own tok)
abbrev qiJ (l : List Rw) : AVal := .p (.sl l.length (qaY rwC l))
def qj9 (tk : Nat × List (Nat × Nat × Nat)) (tok : Nat) (y : List Rw) : Prop := y ≠ [] → qan tk.2 tok = some (y.length, 2)
theorem qoG (e : Env) {y : List Rw} {tok : Nat} {s : ASt} (h : qj9 (qk5 s) tok y) (p : Rw) (hb : y.length ≤ 100000000) :
  ∃ tok' ts nt', ap e 2 16 (qbu tok y) (.sl 1 (rwC p) .full) s = some (qbu tok' (y ++ [p]), { s with ntok := nt', toks := ts }) ∧ qj9 (nt', ts) tok' (y ++ [p]) := by
 cases y with
 | nil =>
  refine ⟨s.ntok, _, _, qis e (sz := 2) (b := 16) (new := rwC p) s rfl rfl (by omega), fun _ => ?_⟩
  show qan ((s.ntok, 1, 2) :: s.toks) s.ntok = _
  rw [qaj, if_pos rfl]
  rfl
 | cons a r =>
  have ht := h (by simp)
  obtain ⟨ts, e1, e2⟩ := qqQ e (sz := 2) (b := 16) (n := r.length + 1) (t := tok) (cs := qaY rwC (a :: r)) (new := rwC p) (y := .sl 1 (rwC p) .full) ht rfl rfl (by simp only [List.length_cons] at hb; omega)
  refine ⟨tok, ts, s.ntok, ?_, fun _ => ?_⟩
  ·have hl : qbu tok (a :: r ++ [p]) = .sl (r.length + 1 + 1) (qaY rwC (a :: r) ++ rwC p) (.own tok) := by
    show AVal.sl ((r ++ [p]).length + 1) (qaY rwC (a :: (r ++ [p]))) (.own tok) = _
    have := qgz rwC (a :: r) p
    rw [List.cons_append] at this
    rw [this, List.length_append]
    rfl
   rw [hl]
   exact e1
  ·show qan ts tok = _
   rw [e2, if_pos rfl]
   simp only [List.length_append, List.length_cons, List.length_nil]
theorem qqW (tok : Nat) (y : List Rw) : qbM (qbu tok y) = qiJ y := by cases y <;> rfl
theorem qeX (tok : Nat) (y : List Rw) : AVal.cells none (qbu tok y) = some [qbu tok y] := by cases y <;> rfl
theorem qfW (tok : Nat) (y : List Rw) : [qbu tok y].all qaK = true := by cases y <;> rfl
theorem qqX (tok : Nat) (y : List Rw) : ln false (qbu tok y) = some (i64 (.ofNat y.length)) := by cases y <;> rfl
theorem qoH (l : List Of) : ∀ (y : List Rw), qbb (fun (y : List Rw) (o : Of) => (y ++ [(o.1, o.2.1)], true)) y l = (y ++ l.map fun o => (o.1, o.2.1), true) := by
 induction l with
 | nil => intro y; simp only [qbb, List.map_nil, List.append_nil]
 | cons o r ih => intro y; simp only [qbb, if_true, ih, List.map_cons, List.append_assoc, List.cons_append, List.nil_append]
def qcV : Int → Bool := fun _ => true
def qcG (a : Ar) (t : Tm) : List Of := qeW qcV 0 (qbl t (qaH a))
def qiK (a : Ar) (t : Tm) : List Rw × Int := if qbG a t = 0 then ((qcG a t).map fun o => (o.1, o.2.1), 0) else ([], qbG a t)
abbrev K27 := Tr AVal × Tr (Nat × List AVal) × Nat × qaJ
def U27 (x : Vw) (q : K27) (y : List Rw) (E H : qaJ) (tk : Nat × List (Nat × Nat × Nat)) : Prop :=
 (q.1.get qah 4 = .ptr q.2.2.1 0 ∧ (∀ t, t < 31 → q.1.has t = true) ∧ q.2.1.get (0, []) 3 = (0, []) ∧ q.2.1.has 3 = true) ∧
 ∃ tok, H = (q.2.2.1 + 3, .loop 0 none q.1 q.2.1 [19, 20] ra27 rb27) :: (q.2.2.1 + 2, .cells [.p (.func 42 [] [])]) :: (q.2.2.1 + 1, .cells x.c) :: (q.2.2.1, .cells [qbu tok y]) :: q.2.2.2 ∧ qj9 tk tok y
theorem qsb (x : Vw) : Ev fun n => YC (fun q : K27 => q.2.2.1 + 4) (fun q => .yield (q.2.2.1 + 3)) (U27 x) (fun y o => (y ++ [(o.1, o.2.1)], true)) (fun _ => True) (fun m y => y.length + m ≤ 100000000) n := by
 refine Ev.succ ((Ev.ge 1).mono fun n hn q y E H pre s o m _ hh hpre hN hU hlv => ?_)
 obtain ⟨fr, lo, N, H0⟩ := q
 obtain ⟨⟨f4, fh, l3, l3h⟩, tok, hH, hok⟩ := hU
 simp only at f4 fh l3 l3h hH hpre hN
 subst hH
 obtain ⟨k, at_, t⟩ := o
 have hpl : ∀ v ∈ pre, v.1 ≠ N + 3 := fun v hv => by have := hpre v hv; omega
 let LP : EX → HObj := fun _ => .loop 1 none fr lo [19, 20] ra27 rb27
 let u : ASt → ASt := fun s => { s with heap := pre ++ (N + 3, .loop 1 none fr lo [19, 20] ra27 rb27) :: (N + 2, .cells [.p (.func 42 [] [])]) :: (N + 1, .cells x.c) :: (N, .cells [qbu tok y]) :: H0 }
 let pre2 : qaJ := pre ++ [(N + 3, .loop 1 none fr lo [19, 20] ra27 rb27), (N + 2, .cells [.p (.func 42 [] [])]), (N + 1, .cells x.c)]
 have hp2 : ∀ v ∈ pre2, v.1 ≠ N := by
  intro v hv
  simp only [pre2, List.mem_append, List.mem_cons, List.not_mem_nil, or_false] at hv
  rcases hv with hv | rfl | rfl | rfl
  ·have := hpre v hv; omega
  ·simp only; omega
  ·simp only; omega
  ·simp only; omega
 have hu : (u s).heap = pre2 ++ (N, .cells [qbu tok y]) :: H0 := by simp only [u, pre2, List.append_assoc, List.cons_append, List.nil_append]
 obtain ⟨tok', ts, nt', e1, e2⟩ := qoG (qae CP n E) (s := u s) (y := y) (tok := tok) hok (k, at_) (by omega)
 have hst := qfE (s := { u s with ntok := nt', toks := ts }) (l := N) (o := 0) hu hp2 (qfW tok' (y ++ [(k, at_)])) (new := [qbu tok' (y ++ [(k, at_)])]) rfl
 have hld : qak (qae CP n E).E (u s) N = some [qbu tok y] := qbE hu hp2
 have one : ∀ v : AVal, ldL [v] 0 none = some v := fun _ => rfl
 let s2 : ASt := { u s with ntok := nt', toks := ts, heap := pre2 ++ (N, .cells [qbu tok' (y ++ [(k, at_)])]) :: H0 }
 have hrun : qrv 31 7 (qae CP n E) n ra27 rb27 u ((19, rwV (k, at_, t)) :: (20, t.v) :: [(4, .ptr N 0)]) [(3, (0, []))] s = some (qjS .normal, s2) := by
  refine (y27_eq (qae CP n E) n u N (rwV (k, at_, t)) t.v s).trans ?_
  have hc2 : AVal.cells (some 2) (rwV (k, at_, t)) = some [u8 k, i64 at_] := rfl
  have hms : ms 1 [.int .u8 0, .int .i64 0] [(0, some 2, .c (.agg [u8 k, i64 at_]))] = some (.sl 1 (rwC (k, at_)) .full) := rfl
  unfold y27
  simp only [hc2, qin, ldP hld, one, qnZ, hms, e1, qeX, hst, Option.bind_some, qab]
  rfl
 have hs2 : s2.heap = pre ++ (N + 3, .loop 1 none fr lo [19, 20] ra27 rb27) :: (N + 2, .cells [.p (.func 42 [] [])]) :: (N + 1, .cells x.c) :: (N, .cells [qbu tok' (y ++ [(k, at_)])]) :: H0 := by simp only [s2, pre2, List.append_assoc, List.cons_append, List.nil_append]
 have hy := qoF (n := n) (nt := 31) (nl := 7) (E := E) (ly := N + 3) (fr := fr) (lo := lo) (pre := pre) (F0 := [(4, .ptr N 0)]) (L := [(3, (0, []))]) (v1 := rwV (k, at_, t)) (v2 := t.v) (x := .normal) (by kernel_rfl) (by kernel_rfl) (by omega) (by omega) (by omega) hh hpl
  (fun t u hu => by
   rw [qaj] at hu
   split at hu
   ·rename_i e; subst e; rw [f4]; simpa using hu
   ·cases hu) fh
  (fun i p hi => by
   rw [qaj] at hi
   split at hi
   ·rename_i e; subst e
    simp only [Option.some.injEq] at hi
    subst hi
    exact ⟨l3, l3h⟩
   ·cases hi) (by simp only [List.all_cons, qam]; rfl) hrun hs2
 refine ⟨_, _, hy, rfl, rfl, ⟨⟨f4, fh, l3, l3h⟩, tok', rfl, e2⟩, fun _ => ?_⟩
 simp only [List.length_append, List.length_cons, List.length_nil]
 omega
theorem qtP (x : Vw) : Ev fun n => SmC (fun q : K27 => q.2.2.1 + 4) (fun _ => .p (.func 42 [] [])) (U27 x) qcV n :=
 (every_u.and (Ev.ge 1)).mono fun n ⟨h, hn⟩ q y E H pre s i _ _ _ _ => by
  rw [qeO CP hn]
  exact h (.ofNat (i + 1)) E s trivial
theorem qcp {E H : qaJ} {l m : Nat} {o : HObj} (h : m ≠ l) : qcI E ((m, o) :: H) l = qcI E H l := by
 unfold qcI
 exact qbc rfl h
theorem qeY {E H : qaJ} {l : Nat} {cs : List AVal} : qcI E ((l, .cells cs) :: H) l = some cs := qaV (s := ⟨0, (l, .cells cs) :: H, 0, []⟩) rfl
theorem qve (x : Vw) (q : K27) (y : List Rw) (E H : qaJ) (tk : Nat × List (Nat × Nat × Nat)) (h : U27 x q y E H tk) : qcI E H (q.2.2.1 + 2) = some [.p (.func 42 [] [])] ∧ q.2.2.1 + 2 < q.2.2.1 + 4 := by
 obtain ⟨_, tok, rfl, _⟩ := h
 exact ⟨by rw [qcp (by omega), qeY], by omega⟩
theorem qvf (x : Vw) (q : K27) (y : List Rw) (E H : qaJ) (tk : Nat × List (Nat × Nat × Nat)) (h : U27 x q y E H tk) : qcI E H (q.2.2.1 + 1) = some x.c ∧ q.2.2.1 + 1 < q.2.2.1 + 4 := by
 obtain ⟨_, tok, rfl, _⟩ := h
 exact ⟨by rw [qcp (by omega), qcp (by omega), qeY], by omega⟩
theorem qmP (a : Ar) (t : Tm) (oa : a.Ok) (ok : t.Ok) (h1 : a.ids.length ≤ 100000) (hs : t.size ≤ 100000) : PC CP 27 [a.v, t.v] (.tuple [qiJ (qiK a t).1, i64 (qiK a t).2]) := by
 have hav : AVal.cells (some 4) a.v = some [.p (.sl a.ids.length (qaY Ty.cells a.ids)), bl a.root.cell, i64 a.root.n, bl a.jumps] := rfl
 have hal : ldL [.p (.sl a.ids.length (qaY Ty.cells a.ids)), bl a.root.cell, i64 a.root.n, bl a.jumps] 0 (some 4) = some a.v := rfl
 have hf0 : AVal.cells none (.sl 0 [] .full) = some [.sl 0 [] .full] := rfl
 unfold qiK
 by_cases hc : qbG a t = 0
 ·have hnd := qiI hc ok h1 hs
  let x := vw (qaH a) t
  have hoff := qj8 (κ := K27) (N0 := fun q => q.2.2.1 + 4) (l4 := fun q => q.2.2.1 + 1) (l7 := fun q => q.2.2.1 + 2) (yv := fun q => .yield (q.2.2.1 + 3)) (someV := fun _ => .p (.func 42 [] [])) (U := U27 x) (sm := qcV) (OS := fun _ => True) (live := fun m y => y.length + m ≤ 100000000) hnd (by omega) (fun m y h => by omega) (fun _ => rfl) (fun _ => rfl) (fun _ => rfl) (fun _ => rfl) (qve x) (qvf x) (fun _ _ _ _ _ _ => trivial) (qsb x) (qtP x)
  rw [if_pos hc]
  refine PC.of2 (cf := cf27) (np := 2) (args' := [a.v, t.v]) (by kernel_rfl) (by kernel_rfl) rfl (by simp only [List.all_cons, qam]; rfl) (by simp only [List.map_cons, qao]; rfl) (fun _ => rfl)
   (((qhJ a t oa ok h1 hs).and ((qqc x (.p (.func 42 [] [])) rfl rfl rfl rfl).and (hoff.and (Ev.ge 1)))).mono fun n ⟨hl, ho, hoff, hn⟩ E s => ?_)
  let N := s.next
  let s21 := qaf (qaf (qaf s (.cells [.sl 0 [] .full])) (.cells x.c)) (.cells [.p (.func 42 [] [])])
  let Y := (qcG a t).map fun o => ((o.1, o.2.1) : Rw)
  suffices s27 (qae CP n E) n a.v t.v s = some (.tuple [qiJ Y, i64 0], s21) from ⟨_, s21, (s27_eq _ _ _ _ _).trans this, rfl⟩
  have hrf : ∀ (F : FL) (L : LL) (kn kx kr : ASt → Res), qan F 4 = some (.ptr N 0) → (∃ p, qan L 3 = some p) → (∀ s' : ASt, ∀ pre tok H, s'.heap = pre ++ (N, .cells [qbu tok Y]) :: H → (∀ v ∈ pre, v.1 ≠ N) → ∃ s2, kn s' = some (.tuple [qbu tok Y, i64 0], s2)) → qmz (qae CP n E) n 31 (.func 94 [] [.ptr (N + 1) 0, .ptr (N + 2) 0]) [19, 20] ra27 rb27 F L s21 kn kx kr (.tuple [qiJ Y, i64 0]) := by
   intro F L kn kx kr hF4 ⟨pl3, hL3⟩ hkn
   refine qtO hn fun fr lo hF hh hlo hL => ?_
   have hf4 := hF 4 _ hF4
   have hU : U27 x (fr, lo, N, s.heap) [] E (qaf s21 (.loop 0 none fr lo [19, 20] ra27 rb27)).heap (qk5 (qaf s21 (.loop 0 none fr lo [19, 20] ra27 rb27))) := ⟨⟨hf4, hh, hlo 3, hL 3 _ hL3⟩, 0, rfl, fun h => absurd rfl h⟩
   obtain ⟨s', pre', H', e1, e2, e3, e4, ⟨_, tok, hH', _⟩⟩ := hoff (fr, lo, N, s.heap) [] E (qaf s21 (.loop 0 none fr lo [19, 20] ra27 rb27)) (Nat.le_refl _) hU (by show 0 + 22 * t.size ≤ _; omega)
   rw [qoH, List.nil_append] at hH'
   subst hH'
   have hk := hkn { s' with heap := pre' ++ (s21.next, .gone) :: (N + 2, .cells [.p (.func 42 [] [])]) :: (N + 1, .cells x.c) :: (N, .cells [qbu tok Y]) :: s.heap } (pre' ++ [(s21.next, .gone), (N + 2, .cells [.p (.func 42 [] [])]), (N + 1, .cells x.c)]) tok s.heap (by simp only [List.append_assoc, List.cons_append, List.nil_append]) (by
    intro v hv
    simp only [List.mem_append, List.mem_cons, List.not_mem_nil, or_false] at hv
    rcases hv with hv | rfl | rfl | rfl
    ·have := e3 v hv; simp only at this; omega
    ·show N + 1 + 1 + 1 ≠ N; omega
    ·show N + 2 ≠ N; omega
    ·show N + 1 ≠ N; omega)
   obtain ⟨s2, hk⟩ := hk
   refine ⟨.normal, s', pre', _, s2, _, e1, e2, fun v hv => by have := e3 v hv; simp only at this; show v.1 ≠ N + 1 + 1 + 1; omega, ?_, hk⟩
   show AVal.tuple [qcf (qbu tok Y), _] = _
   have : qcf (qbu tok Y) = qbM (qbu tok Y) := by cases Y <;> rfl
   rw [this, qqW]
   rfl
  have one : ∀ v : AVal, ldL [v] 0 none = some v := fun _ => rfl
  have hlk : ∀ E s, cl (qae CP n E) 40 [a.v, t.v] s = some (.tuple [x.v, i64 0], s) := by
   intro E s
   have := hl E s
   rw [hc] at this
   exact this
  unfold s27
  simp only [hav, hal, hlk, ho, qal, qaZ, qax, qbR, qgE, qag, qbq, decide_true, Bool.not_true, qaa, cond_false, Option.map_some, Option.bind_some, qab, qai, qar, qas, qaS]
  refine qqU 5 3 ?_ (by omega) ?_ (hrf _ _ _ _ _ rfl ⟨_, rfl⟩ fun s' pre tok H hh hp => ?_)
  ·intro p hp
   simp only [List.mem_cons, List.not_mem_nil, or_false] at hp
   rcases hp with rfl | rfl | rfl | rfl | rfl | rfl | rfl | rfl | rfl | rfl | rfl | rfl | rfl | rfl | rfl | rfl | rfl | rfl <;> simp only <;> omega
  ·intro p hp
   simp only [List.mem_cons, List.not_mem_nil, or_false] at hp
   rcases hp with rfl | rfl | rfl | rfl | rfl | rfl | rfl | rfl <;> simp only <;> omega
  ·have hld : qak (qae CP n E).E s' s.next = some [qbu tok Y] := qbE hh hp
   have hst := qfE (l := s.next) (o := 0) hh hp (qfW tok Y) (new := [qbu tok Y]) rfl
   have hld2 : qak (qae CP n E).E { s' with heap := pre ++ (s.next, .cells [qbu tok Y]) :: H } s.next = some [qbu tok Y] := qbE rfl hp
   refine ⟨{ s' with heap := pre ++ (s.next, .cells [qbu tok Y]) :: H }, ?_⟩
   simp only [ldP hld, ldP hld2, one, qeX, hst, Option.bind_some]
 ·rw [if_neg hc]
  refine PC.of2 (cf := cf27) (np := 2) (args' := [a.v, t.v]) (by kernel_rfl) (by kernel_rfl) rfl (by simp only [List.all_cons, qam]; rfl) (by simp only [List.map_cons, qao]; rfl) (fun _ => rfl)
   ((qhJ a t oa ok h1 hs).mono fun n hl E s => ⟨.tuple [.sl 0 [] .full, i64 (qbG a t)], qaf s (.cells [.sl 0 [] .full]), (s27_eq _ _ _ _ _).trans ?_, rfl⟩)
  have hst : stH (qaf s (.cells [.sl 0 [] .full])) (.ptr s.next 0) [.sl 0 [] .full] = some (qaf s (.cells [.sl 0 [] .full])) := qg9 _ _ _ _ _ rfl rfl
  unfold s27
  simp only [hav, hal, hl, hc, hf0, hst, qcm, qal, qaZ, qax, qgE, qag, qbq, decide_false, Bool.not_false, qaa, cond_true, Option.map_some, Option.bind_some, qab, qai, qar, qas, qaS, qce]
end Go.AI.Tryz
namespace Go.AI
mutual
def Tm.put1 (u : Tm) : Nat → Tm → Tm
 | 0, _ => u
 | j + 1, .mk k n m i ks => .mk k n m i (Tm.putL u j ks)
def Tm.putL (u : Tm) : Nat → List Tm → List Tm
 | _, [] => []
 | j, k :: r => if j < k.size then Tm.put1 u j k :: r else k :: Tm.putL u (j - k.size) r
end
theorem Tm.put1_succ (u t : Tm) (j : Nat) : Tm.put1 u (j + 1) t = t.with (Tm.putL u j t.ks) := by
 cases t; rw [Tm.put1]; rfl
def qdi (a : Int) (u : Tm) : Int → Tm → Int → Int × (Tm × Bool) := fun c t _ => (qa7 .i64 (c + 1), if qa7 .i64 (qa7 .i64 (c + 1) - 1) = a then (u, false) else (t, true))
theorem ql5 {a : Int} {u : Tm} {c : Nat} (h : c ≤ 1000000000) (t : Tm) (l : Int) : qdi a u (.ofNat c) t l = (.ofNat (c + 1), if Int.ofNat c = a then (u, false) else (t, true)) := by
 have h1 : qa7 .i64 (Int.ofNat c + 1) = .ofNat (c + 1) := qbS (by simp only [Int.ofNat_eq_natCast]; omega) (by simp only [Int.ofNat_eq_natCast]; omega)
 have h2 : qa7 .i64 (Int.ofNat (c + 1) - 1) = .ofNat c := by
  have : Int.ofNat (c + 1) - 1 = Int.ofNat c := by simp only [Int.ofNat_eq_natCast]; omega
  rw [this]
  exact qbS (by simp only [Int.ofNat_eq_natCast]; omega) (by simp only [Int.ofNat_eq_natCast]; omega)
 unfold qdi
 rw [h1, h2]
def PutR (a c : Nat) (u : Tm) (sz : Nat) {α : Type} (t : α) (put : Nat → α) (r : Int × α) : Prop :=
 if c ≤ a ∧ a < c + sz then ∃ c' : Nat, r = (.ofNat c', put (a - c)) ∧ a < c' ∧ c' ≤ c + sz else r = (.ofNat (c + sz), t)
theorem PutR.inn {a c : Nat} {u : Tm} {sz : Nat} {α : Type} {t : α} {put : Nat → α} {r : Int × α} (h : c ≤ a ∧ a < c + sz) : PutR a c u sz t put r ↔ ∃ c' : Nat, r = (.ofNat c', put (a - c)) ∧ a < c' ∧ c' ≤ c + sz := by
 unfold PutR; rw [if_pos h]
theorem PutR.out {a c : Nat} {u : Tm} {sz : Nat} {α : Type} {t : α} {put : Nat → α} {r : Int × α} (h : ¬(c ≤ a ∧ a < c + sz)) : PutR a c u sz t put r ↔ r = (.ofNat (c + sz), t) := by
 unfold PutR; rw [if_neg h]
theorem Tm.with_ks (t : Tm) : t.with t.ks = t := by cases t; rfl
theorem ql6 (a : Nat) (u : Tm) : ∀ (d c : Nat) (t : Tm) (l : Int), t.size ≤ d → c + t.size ≤ 1000000000 → PutR a c u t.size t (fun j => Tm.put1 u j t) (qcB (qdi (.ofNat a) u) d (.ofNat c) t l)
 | 0, c, t, l, h, _ => by have := Tm.size_pos t; omega
 | d + 1, c, t, l, h, hc => by
  have hk : ∀ (lab : Bool) (ks : List Tm) (j c : Nat), (∀ u ∈ ks, u.size ≤ d) → c + Tm.sizeL ks ≤ 1000000000 → PutR a c u (Tm.sizeL ks) ks (fun j => Tm.putL u j ks) (qe1 (qcB (qdi (.ofNat a) u) d) lab l j (.ofNat c) ks) := by
   intro lab ks
   induction ks with
   | nil => intro j c _ _; rw [PutR.out (by simp only [Tm.sizeL]; omega)]; rfl
   | cons w r ih =>
    intro j c hu hc
    simp only [Tm.sizeL] at hc
    have h1 := ql6 a u d c w (if lab && decide (j = 0) then l + 1 else l) (hu w (List.mem_cons_self ..)) (by omega)
    have ih := fun c' hc' => ih (j + 1) c' (fun v hv => hu v (List.mem_cons_of_mem _ hv)) hc'
    simp only [qe1, Tm.sizeL, Tm.putL]
    by_cases hin : c ≤ a ∧ a < c + w.size
    ·rw [PutR.inn hin] at h1
     obtain ⟨c', e, h3, h4⟩ := h1
     have ih := ih c' (by omega)
     rw [PutR.out (by omega)] at ih
     rw [e]
     simp only
     rw [ih, PutR.inn (by omega)]
     refine ⟨c' + Tm.sizeL r, ?_, by omega, by omega⟩
     rw [if_pos (by omega)]
    ·rw [PutR.out hin] at h1
     rw [h1]
     simp only
     have ih := ih (c + w.size) (by omega)
     by_cases hin2 : c + w.size ≤ a ∧ a < c + w.size + Tm.sizeL r
     ·rw [PutR.inn hin2] at ih
      obtain ⟨c', e, h3, h4⟩ := ih
      rw [e, PutR.inn (by omega)]
      refine ⟨c', ?_, h3, by omega⟩
      rw [if_neg (by omega)]
      have : a - c - w.size = a - (c + w.size) := by omega
      rw [this]
     ·rw [PutR.out hin2] at ih
      rw [ih, PutR.out (by omega)]
      have : c + w.size + Tm.sizeL r = c + (w.size + Tm.sizeL r) := by omega
      rw [this]
  have hsz := Tm.size_ks t
  have hp := Tm.size_pos t
  unfold qcB
  rw [ql5 (by omega)]
  by_cases ha : c = a
  ·subst ha
   rw [if_pos rfl]
   rw [PutR.inn (by omega)]
   simp only [Bool.false_eq_true, if_false]
   refine ⟨c + 1, ?_, by omega, by omega⟩
   rw [Nat.sub_self, Tm.put1]
  ·rw [if_neg (fun h => ha (Int.ofNat.inj h))]
   simp only [if_true]
   have := hk (decide (t.k = 11)) t.ks 0 (c + 1) (fun v hv => by have := Tm.sizeL_mem hv; omega) (by omega)
   by_cases hin : c + 1 ≤ a ∧ a < c + 1 + Tm.sizeL t.ks
   ·rw [PutR.inn hin] at this
    obtain ⟨c', e, h3, h4⟩ := this
    rw [e, PutR.inn (by omega)]
    refine ⟨c', ?_, h3, by omega⟩
    simp only
    have : a - c = (a - (c + 1)) + 1 := by omega
    rw [this, Tm.put1_succ]
   ·rw [PutR.out hin] at this
    rw [this, PutR.out (by omega)]
    simp only
    have : c + 1 + Tm.sizeL t.ks = c + t.size := by omega
    rw [this, Tm.with_ks]
end Go.AI
namespace Go.AI.Tryz
def RP (a : Int) (u : Tm) (q : Nat × qaJ) (c : Int) (_ : qaJ) (s : ASt) : Prop := s.heap = (q.1 + 2, .cells [i64 c]) :: (q.1 + 1, .cells u.c) :: (q.1, .cells [i64 a]) :: q.2
end Go.AI.Tryz
namespace Go.AI.Tryz
def Lk (x : Sc) (t : Tm) (y : Sc) (t' : Tm) : Prop := szF x t = szF y t' ∧ ∀ b, qdC szF x t b = qdC szF y t' b
def LkK (sx sy : Nat → Sc) : Nat → List Tm → List Tm → Prop
 | _, [], [] => True
 | j, u :: r, w :: q => Lk (sx j) u (sy j) w ∧ LkK sx sy (j + 1) r q
 | _, _, _ => False
theorem ql7 {x : Sc} {t : Tm} (h : t.k ≠ 16) (h2 : t.k ≠ 17) (b : Bs) : qdC szF x t b = (!b.cell && is2 (szF x t) b.n) := by
 unfold qdC
 rw [if_neg h, if_neg h2]
 cases b.cell <;> simp
theorem qoI {x : Sc} (i : Int) (b : Bs) : qdC szF x (.cel i) b = (b.cell && (match x.get i with | some e => e.ty.res.cell && decide (e.ty.res.n = b.n) | none => false)) := by
 unfold qdC
 rw [qcF (.cel i)]
 cases b.cell with
 | true => simp only [if_true, Bool.true_and, Tm.k_mk, Tm.i_mk]; rfl
 | false =>
  simp only [Bool.false_eq_true, if_false, qfu, Bool.false_and]
theorem qoJ {x : Sc} (u w : Tm) (b : Bs) : qdC szF x (.obj u w) b = (b.cell && (is2 (szF x u) b.n && is2 (szF (x.with ⟨⟨[], ⟨false, b.n⟩⟩, true⟩) w) 1)) := by
 unfold qdC
 rw [qcF (.obj u w)]
 cases b.cell with
 | true => simp only [if_true, Bool.true_and, Tm.k_mk, Tm.ks_mk, Int.reduceEq, if_false]
 | false =>
  simp only [Bool.false_eq_true, if_false, qeb, Bool.false_and]
theorem Lk.of_sz {x y : Sc} {t t' : Tm} (h : szF x t = szF y t') (h1 : t.k ≠ 16 ∧ t.k ≠ 17) (h2 : t'.k ≠ 16 ∧ t'.k ≠ 17) : Lk x t y t' := by
 refine ⟨h, fun b => ?_⟩
 rw [ql7 h1.1 h1.2, ql7 h2.1 h2.2, h]
theorem qvw {x : Sc} {t : Tm} (h : (szF x t).2 = true) : t.k ≠ 16 ∧ t.k ≠ 17 := by
 cases qdu h with
 | cel i => rw [qfu] at h; cases h
 | obj u w => rw [qeb] at h; cases h
 | _ => exact ⟨by simp [Tm.k], by simp [Tm.k]⟩
theorem Lk.of_ok {x y : Sc} {t t' : Tm} (h : szF x t = szF y t') (h1 : (szF x t).2 = true) : Lk x t y t' := Lk.of_sz h (qvw h1) (qvw (by rw [← h]; exact h1))
theorem LkK.args {x y : Sc} : ∀ {ks ks' : List Tm} (j : Nat) {ps : List Bs}, LkK (fun _ => x) (fun _ => y) j ks ks' → qbz (qdC szF x) ks ps = qbz (qdC szF y) ks' ps
 | [], [], _, ps, _ => by cases ps <;> rfl
 | u :: r, w :: q, j, ps, h => by
  unfold LkK at h
  cases ps with
  | nil => rfl
  | cons b ps =>
   simp only [qbz, h.1.2 b]
   rw [LkK.args (j + 1) h.2]
 | [], _ :: _, _, _, h => h.elim
 | _ :: _, [], _, _, h => h.elim
theorem Lk.node {x y : Sc} {t t' : Tm} (hs : Sh t) (hs' : Sh t') (hk : t'.k = t.k) (hm : t'.m = t.m) (hn : t.k ≠ 12 → t'.n = t.n) (h12 : t.k = 12 → qbt t.n x.size = qbt t'.n y.size) (hi : x.get t.i = y.get t'.i)
  (h18 : t.k = 18 → decide (x.top < t.i) = decide (y.top < t'.i)) (hks : LkK (x.kid t) (y.kid t') 0 t.ks t'.ks) : Lk x t y t' := by
 cases hs <;> cases hs' <;> first | (exfalso; revert hk; simp only [Tm.k_mk, Int.reduceEq, imp_self]; done) | skip
 case num.num n m n' m' =>
  have e1 : n' = n := hn (by simp [Tm.k])
  have e2 : m' = m := hm
  subst e1 e2
  exact Lk.of_sz (by rw [qdA, qdA]) (by simp [Tm.k]) (by simp [Tm.k])
 case use.use i ks i' ks' =>
  have e : x.get i = y.get i' := hi
  have hks : LkK (fun _ => x) (fun _ => y) 0 ks ks' := hks
  refine Lk.of_sz ?_ (by simp [Tm.k]) (by simp [Tm.k])
  rw [qgF, qgF, e, hks.args]
 case get.get i i' =>
  have e : x.get i = y.get i' := hi
  refine Lk.of_sz ?_ (by simp [Tm.k]) (by simp [Tm.k])
  rw [qhE, qhE, e]
 case put.put i u i' u' =>
  have e : x.get i = y.get i' := hi
  have h1 : szF x u = szF y u' := hks.1.1
  refine Lk.of_sz ?_ (by simp [Tm.k]) (by simp [Tm.k])
  rw [qeP, qeP, e, h1]
 case op.op n m u w n' m' u' w' =>
  have e1 : n' = n := hn (by simp [Tm.k])
  have e2 : m' = m := hm
  subst e1 e2
  have h1 : szF x u = szF y u' := hks.1.1
  have h2 : szF x w = szF y w' := hks.2.1.1
  refine Lk.of_sz ?_ (by simp [Tm.k]) (by simp [Tm.k])
  rw [qeQ, qeQ, h1, h2]
 case az.az n u n' u' =>
  have e1 : n' = n := hn (by simp [Tm.k])
  subst e1
  have h1 : szF x u = szF y u' := hks.1.1
  refine Lk.of_sz ?_ (by simp [Tm.k]) (by simp [Tm.k])
  rw [qeR, qeR, h1]
 case seq.seq u w u' w' =>
  have h1 : szF x u = szF y u' := hks.1.1
  have h2 : szF x w = szF y w' := hks.2.1.1
  refine Lk.of_sz ?_ (by simp [Tm.k]) (by simp [Tm.k])
  rw [qbQ, qbQ, h1, h2]
 case ite.ite c u w c' u' w' =>
  have h0 : szF x c = szF y c' := hks.1.1
  have h1 : szF x u = szF y u' := hks.2.1.1
  have h2 : szF x w = szF y w' := hks.2.2.1.1
  refine Lk.of_sz ?_ (by simp [Tm.k]) (by simp [Tm.k])
  rw [qci, qci, h0, h1, h2]
 case whl.whl u w u' w' =>
  have h1 : szF x u = szF y u' := hks.1.1
  have h2 : szF x w = szF y w' := hks.2.1.1
  refine Lk.of_sz ?_ (by simp [Tm.k]) (by simp [Tm.k])
  rw [qft, qft, h1, h2]
 case new.new n m u n' m' u' =>
  have e1 : n' = n := hn (by simp [Tm.k])
  have e2 : m' = m := hm
  subst e1 e2
  have h1 : szF (x.with ⟨⟨[], ⟨true, n'⟩⟩, false⟩) u = szF (y.with ⟨⟨[], ⟨true, n'⟩⟩, false⟩) u' := hks.1.1
  refine Lk.of_sz ?_ (by simp [Tm.k]) (by simp [Tm.k])
  rw [qeS, qeS, h1]
 case lbl.lbl u w u' w' =>
  have h1 : szF { x with size := x.size + 1 } u = szF { y with size := y.size + 1 } u' := hks.1.1
  have h2 : szF x w = szF y w' := hks.2.1.1
  refine Lk.of_sz ?_ (by simp [Tm.k]) (by simp [Tm.k])
  rw [qd9, qd9, h1, h2]
 case jmp.jmp n n' =>
  refine Lk.of_sz ?_ (by simp [Tm.k]) (by simp [Tm.k])
  rw [qlW, qlW]
  exact congrArg _ (h12 rfl)
 case cho.cho u w u' w' =>
  have h1 : szF x u = szF y u' := hks.1.1
  have h2 : szF x w = szF y w' := hks.2.1.1
  refine Lk.of_sz ?_ (by simp [Tm.k]) (by simp [Tm.k])
  rw [qea, qea, h1, h2]
 case hang.hang => exact Lk.of_sz (by rw [qiz, qiz]) (by simp [Tm.k]) (by simp [Tm.k])
 case val.val i i' =>
  have e : x.get i = y.get i' := hi
  refine Lk.of_sz ?_ (by simp [Tm.k]) (by simp [Tm.k])
  rw [qhF, qhF, e]
 case cel.cel i i' =>
  have e : x.get i = y.get i' := hi
  refine ⟨by rw [qfu, qfu], fun b => ?_⟩
  rw [qoI, qoI, e]
 case obj.obj u w u' w' =>
  have h1 : szF x u = szF y u' := hks.1.1
  have h2 : szF (x.with ⟨⟨[], ⟨false, (szF x u).1⟩⟩, true⟩) w = szF (y.with ⟨⟨[], ⟨false, (szF y u').1⟩⟩, true⟩) w' := hks.2.1.1
  refine ⟨by rw [qeb, qeb], fun b => ?_⟩
  rw [qoJ, qoJ]
  by_cases hb : (szF x u).1 = b.n
  ·rw [← h1, hb] at h2
   rw [h1, h2]
  ·have : is2 (szF x u) b.n = false := by simp only [is2, hb, decide_false, Bool.and_false]
   rw [← h1, this]
   simp only [Bool.false_and]
 case ntc.ntc n i u n' i' u' =>
  have e1 : n' = n := hn (by simp [Tm.k])
  subst e1
  have e : x.get i = y.get i' := hi
  have h1 : szF x u = szF y u' := hks.1.1
  have h3 : decide (x.top < i) = decide (y.top < i') := h18 rfl
  refine Lk.of_sz ?_ (by simp [Tm.k]) (by simp [Tm.k])
  rw [qec, qec, h1, e, h3]
theorem qoK {x : Sc} {t : Tm} : Lk x t x t := ⟨rfl, fun _ => rfl⟩
theorem ql8 {sx : Nat → Sc} : ∀ (j : Nat) (l : List Tm), LkK sx sx j l l
 | _, [] => trivial
 | j, _ :: r => ⟨qoK, ql8 (j + 1) r⟩
end Go.AI.Tryz
namespace Go.AI.Tryz
theorem qk7 {t : Tm} (h : Sh t) {ks : List Tm} (hl : ks.length = t.ks.length) : Sh (t.with ks) := by
 have h1 := qcF h
 refine qol ?_
 rw [← h1]
 obtain ⟨k, n, m, i, l⟩ := t
 simp only [Tm.ks] at hl
 show (match qch formL k with | none => false | some f => (((f.n || decide (n = 0)) && (f.m || decide (m = 0))) && (f.i || decide (i = 0))) && (decide (f.k < 0) || decide (f.k = Int.ofNat ks.length))) = _
 simp only [hl]
 rfl
theorem qsc {t : Tm} (h : t.Ok) {ks : List Tm} (hl : ks.length = t.ks.length) (hk : ∀ u ∈ ks, u.Ok) : (t.with ks).Ok := by
 cases h with
 | mk h1 h2 h3 h4 h5 h6 => exact .mk h1 h2 h3 h4 (by simp only [Tm.ks] at hl; omega) hk
theorem qqe {x : Sc} {t : Tm} {ks : List Tm} (h : t.k = 17 → (szF x (t.ks.headD .z)).1 = (szF x (ks.headD .z)).1) (j : Nat) : x.kid (t.with ks) j = x.kid t j := by
 obtain ⟨k, n, m, i, l⟩ := t
 simp only [Sc.kid, Tm.with, Tm.k, Tm.n, Tm.ks] at h ⊢
 by_cases hk : k = 17
 ·rw [h hk]
  rfl
 ·have : ¬ (k = 17 ∧ j = 1) := fun h => hk h.1
  simp only [this, if_false]
  rfl
theorem LkK.hd {sx sy : Nat → Sc} {l m : List Tm} (h : LkK sx sy 0 l m) : (szF (sx 0) (l.headD .z)).1 = (szF (sy 0) (m.headD .z)).1 ∨ l = [] ∧ m = [] := by
 match l, m, h with
 | [], [], _ => exact .inr ⟨rfl, rfl⟩
 | u :: r, w :: q, h => exact .inl (by simp only [List.headD_cons]; rw [h.1.1])
theorem qgN {x : Sc} {t : Tm} (h : t.k = 17) : x.kid t 0 = x := by
 unfold Sc.kid
 rw [if_neg (by omega), if_neg (by simp), if_neg (by omega)]
theorem Lk.with {x : Sc} {t : Tm} {ks : List Tm} (h : Sh t) (hl : ks.length = t.ks.length) (hk : LkK (x.kid t) (x.kid t) 0 t.ks ks) : Lk x t x (t.with ks) := by
 have e : ∀ j, x.kid (t.with ks) j = x.kid t j := qqe fun h17 => by
  rcases hk.hd with h | ⟨h1, h2⟩
  ·rw [qgN h17] at h; exact h
  ·rw [h1, h2]
 refine Lk.node h (qk7 h hl) ?_ ?_ ?_ ?_ ?_ ?_ ?_
 ·cases t; rfl
 ·cases t; rfl
 ·cases t; intro _; rfl
 ·cases t; intro _; rfl
 ·cases t; rfl
 ·cases t; intro _; rfl
 ·rw [show x.kid (t.with ks) = x.kid t from funext e]
  cases t; exact hk
structure PutOk (x : Sc) (t : Tm) (p : Sc × Tm) (u r : Tm) : Prop where
 tr : Lk x t x r
 size : r.size + p.2.size = t.size + u.size
 ok : r.Ok
 sh : Sh r
theorem ql9 (u : Tm) : ∀ (ks : List Tm) (j : Nat), (Tm.putL u j ks).length = ks.length
 | [], j => by cases j <;> rfl
 | k :: r, j => by
  unfold Tm.putL
  split
  ·rfl
  ·simp only [List.length_cons, ql9 u r]
theorem qji {u : Tm} (hu : u.Ok) {p : Sc × Tm} (hp : Lk p.1 p.2 p.1 u) (hsu : Sh u) : ∀ (d : Nat) (t : Tm) (x : Sc) (j : Nat), t.size ≤ d → (qbl t x)[j]? = some p → Nd x t → PutOk x t p u (Tm.put1 u j t)
 | 0, t, _, _, h, _, _ => by have := Tm.size_pos t; omega
 | d + 1, t, x, 0, hd, hj, hn => by
  rw [qd3] at hj
  simp only [List.getElem?_cons_zero, Option.some.injEq] at hj
  subst hj
  unfold Tm.put1
  exact ⟨hp, by show u.size + t.size = _; omega, hu, hsu⟩
 | d + 1, t, x, j + 1, hd, hj, hn => by
  rw [qd3] at hj
  simp only [List.getElem?_cons_succ] at hj
  have hK : ∀ (r : List Tm) (sc : Nat → Sc) (m j : Nat), (∀ w ∈ r, w.size ≤ d ∧ w.Ok) → (∀ i w, r[i]? = some w → Nd (sc (m + i)) w) → (qbA sc m r)[j]? = some p →
    LkK sc sc m r (Tm.putL u j r) ∧ Tm.sizeL (Tm.putL u j r) + p.2.size = Tm.sizeL r + u.size ∧ ∀ w ∈ Tm.putL u j r, w.Ok := by
   intro r
   induction r with
   | nil => intro sc m j _ _ h; simp [qbA] at h
   | cons k r ih =>
    intro sc m j hsz hnd h
    simp only [qbA] at h
    unfold Tm.putL
    by_cases hlt : j < k.size
    ·rw [if_pos hlt]
     rw [List.getElem?_append_left (by rw [qcU]; exact hlt)] at h
     obtain ⟨h1, h2, h3, h4⟩ := qji hu hp hsu d k (sc m) j (hsz k (List.mem_cons_self ..)).1 h (hnd 0 k rfl)
     refine ⟨⟨h1, ql8 _ _⟩, by simp only [Tm.sizeL]; omega, fun w hw => ?_⟩
     rcases List.mem_cons.1 hw with rfl | hw
     ·exact h3
     ·exact (hsz w (List.mem_cons_of_mem _ hw)).2
    ·rw [if_neg hlt]
     rw [List.getElem?_append_right (by rw [qcU]; omega), qcU] at h
     obtain ⟨h1, h2, h3⟩ := ih sc (m + 1) (j - k.size) (fun w hw => hsz w (List.mem_cons_of_mem _ hw)) (fun i w hi => by
      have := hnd (i + 1) w (by simpa using hi)
      rw [show m + 1 + i = m + (i + 1) by omega]
      exact this) h
     refine ⟨⟨qoK, h1⟩, by simp only [Tm.sizeL]; omega, fun w hw => ?_⟩
     rcases List.mem_cons.1 hw with rfl | hw
     ·exact (hsz w (List.mem_cons_self ..)).2
     ·exact h3 w hw
  obtain ⟨h1, h2, h3⟩ := hK t.ks (fun j => x.kid t j) 0 j (fun w hw => ⟨by have := qa3 hw; omega, hn.ok.kids w hw⟩) (fun i w hi => by rw [Nat.zero_add]; exact hn.kid hi) hj
  rw [Tm.put1_succ]
  have hl := ql9 u t.ks j
  refine ⟨Lk.with hn.sh hl h1, ?_, qsc hn.ok hl h3, qk7 hn.sh hl⟩
  have e1 := Tm.size_ks t
  have e2 := Tm.size_ks (t.with (Tm.putL u j t.ks))
  have e3 : (t.with (Tm.putL u j t.ks)).ks = Tm.putL u j t.ks := by cases t; rfl
  rw [e3] at e2
  omega
end Go.AI.Tryz
namespace Go.AI.Tryz
structure Good (x : Sc) (t u : Tm) : Prop where
 sz : szF x t = szF x u
 ok2 : (szF x t).2 = true
 le : u.size ≤ t.size
 ok : u.Ok
theorem qhK {n m : Int} (h : 0 ≤ n ∧ n ≤ 64) (hm : 0 ≤ m ∧ m ≤ 64) : (Tm.num n m).Ok := .mk (by decide) (by omega) (by omega) (by decide) (by decide) (fun _ h => by cases h)
theorem ok1_of {k n m i : Int} {a : Tm} (hk : 0 ≤ k ∧ k < 256) (hn : -9223372036854775808 ≤ n ∧ n ≤ 9223372036854775807) (hm : -9223372036854775808 ≤ m ∧ m ≤ 9223372036854775807) (hi : -9223372036854775808 ≤ i ∧ i ≤ 9223372036854775807) (ha : a.Ok) : (Tm.mk k n m i [a]).Ok :=
 .mk hk hn hm hi (by rw [qbF]; simp only [List.length_cons, List.length_nil]; omega) fun u hu => by
  simp only [List.mem_cons, List.not_mem_nil, or_false] at hu
  subst hu; exact ha
theorem ok2_of {k n m i : Int} {a b : Tm} (hk : 0 ≤ k ∧ k < 256) (hn : -9223372036854775808 ≤ n ∧ n ≤ 9223372036854775807) (hm : -9223372036854775808 ≤ m ∧ m ≤ 9223372036854775807) (hi : -9223372036854775808 ≤ i ∧ i ≤ 9223372036854775807) (ha : a.Ok) (hb : b.Ok) : (Tm.mk k n m i [a, b]).Ok :=
 .mk hk hn hm hi (by rw [qbF]; simp only [List.length_cons, List.length_nil]; omega) fun u hu => by
  simp only [List.mem_cons, List.not_mem_nil, or_false] at hu
  rcases hu with rfl | rfl
  ·exact ha
  ·exact hb
theorem ok3_of {k n m i : Int} {a b c : Tm} (hk : 0 ≤ k ∧ k < 256) (hn : -9223372036854775808 ≤ n ∧ n ≤ 9223372036854775807) (hm : -9223372036854775808 ≤ m ∧ m ≤ 9223372036854775807) (hi : -9223372036854775808 ≤ i ∧ i ≤ 9223372036854775807) (ha : a.Ok) (hb : b.Ok) (hc : c.Ok) : (Tm.mk k n m i [a, b, c]).Ok :=
 .mk hk hn hm hi (by rw [qbF]; simp only [List.length_cons, List.length_nil]; omega) fun u hu => by
  simp only [List.mem_cons, List.not_mem_nil, or_false] at hu
  rcases hu with rfl | rfl | rfl
  ·exact ha
  ·exact hb
  ·exact hc
theorem qbY {t : Tm} (h : t.Ok) : (0 ≤ t.k ∧ t.k < 256) ∧ (-9223372036854775808 ≤ t.n ∧ t.n ≤ 9223372036854775807) ∧ (-9223372036854775808 ≤ t.m ∧ t.m ≤ 9223372036854775807) ∧ (-9223372036854775808 ≤ t.i ∧ t.i ≤ 9223372036854775807) := by cases h with | mk h1 h2 h3 h4 _ _ => exact ⟨h1, h2, h3, h4⟩
theorem z64 : (-9223372036854775808 : Int) ≤ 0 ∧ (0 : Int) ≤ 9223372036854775807 := by decide
theorem o64 : (-9223372036854775808 : Int) ≤ 1 ∧ (1 : Int) ≤ 9223372036854775807 := by decide
theorem qiL {a m : Int} (ha : 0 ≤ a) (hm : 1 ≤ m) : 0 ≤ a.tmod m ∧ a.tmod m < m := by
 rw [Int.tmod_eq_emod_of_nonneg ha]
 exact ⟨Int.emod_nonneg _ (by omega), Int.emod_lt_of_pos _ (by omega)⟩
theorem qtQ {n m a b : Int} (hm : 1 ≤ m) (ha : 0 ≤ a) (hb : 0 ≤ b) (hb2 : b < m) : (n = 1 ∨ n = 2 ∨ n = 3 → 0 ≤ qlY n m a b ∧ qlY n m a b < m) ∧ (n = 4 ∨ n = 5 → 0 ≤ qlY n m a b ∧ qlY n m a b < 2) := by
 unfold qlY
 refine ⟨fun h => ?_, fun h => ?_⟩
 ·rcases h with rfl | rfl | rfl
  ·exact qiL (by omega) hm
  ·exact qiL (by omega) hm
  ·exact qiL (Int.mul_nonneg ha hb) hm
 ·rcases h with rfl | rfl <;> simp only [Int.reduceEq, if_false, if_true]
  ·cases decide (a = b) <;> simp
  ·cases decide (a < b) <;> simp
theorem qmQ {x : Sc} {t : Tm} {n m : Int} (h : (szF x t).2 = true) (hn : qco t n m = true) : t = .num n m := by
 simp only [qco, Bool.and_eq_true, decide_eq_true_eq] at hn
 obtain ⟨p, q, rfl⟩ := qfg (qdu h) hn.1
 rw [show p = n from hn.2.1, show q = m from hn.2.2]
theorem qsd {x : Sc} {t r : Tm} (h : Nd x t) (e : opR x t = some r) : Good x t r := by
 by_cases hk : t.k = 5
 ·have hsz := h.gd.sz (by omega) (by omega)
  have hok := h.ok
  have hko := hok.kids
  have hf := qbY hok
  have hsc := h.sc
  cases h.sh with
  | op n m a b =>
   have e : (if qaO a && qaO b then some (.num (qlY n m a.n b.n) (szF x (.op n m a b)).1) else none) = some r := e
   split at e
   ·rename_i hab
    simp only [Bool.and_eq_true] at hab
    simp only [Option.some.injEq] at e
    subst e
    have hs2 := hsz
    rw [qeQ] at hs2 ⊢
    have hin : qbv m = true ∧ is2 (szF x a) m = true ∧ is2 (szF x b) m = true := by
     split at hs2
     ·simpa only [Bool.and_eq_true] using hs2
     ·split at hs2
      ·simpa only [Bool.and_eq_true] using hs2
      ·cases hs2
    obtain ⟨h1, h2, h3⟩ := hin
    rw [is2_iff] at h2 h3
    have ra := qdR (x := x) (by rw [h2]) hab.1
    have rb := qdR (x := x) (by rw [h3]) hab.2
    rw [h2] at ra; rw [h3] at rb
    rw [isSize_iff] at h1
    have hr := qtQ (n := n) (m := m) (a := a.n) (b := b.n) h1.1 ra.1 rb.1 (by have := rb.2.2.2; simp only at this; omega)
    by_cases hn : n = 1 ∨ n = 2 ∨ n = 3
    ·have hr := hr.1 hn
     rw [if_pos hn]
     refine ⟨?_, hsz, ?_, qhK (by omega) (by simp only; omega)⟩
     ·rw [qeQ, qdA, if_pos hn, h2, h3]
      simp only [is2, decide_true, Bool.and_true, isSize_iff.2 h1, isBelow_iff.2 hr]
     ·simp only [Tm.size, Tm.sizeL]; omega
    ·rw [if_neg hn] at hs2 ⊢
     by_cases hn2 : n = 4 ∨ n = 5
     ·have hr := hr.2 hn2
      rw [if_pos hn2]
      refine ⟨?_, hsz, ?_, qhK (by omega) (by simp only; omega)⟩
      ·rw [qeQ, qdA, if_neg hn, if_pos hn2, h2, h3]
       simp only [is2, decide_true, Bool.and_true, isSize_iff.2 h1, isBelow_iff.2 hr, isSize_iff.2 (show 1 ≤ (2:Int) ∧ (2:Int) ≤ 64 by decide)]
      ·simp only [Tm.size, Tm.sizeL]; omega
     ·rw [if_neg hn2] at hs2; cases hs2
   ·cases e
  | _ => simp only [Tm.k_mk] at hk; omega
 ·unfold opR at e; rw [if_neg hk] at e; cases e
theorem qse {x : Sc} {t r : Tm} (h : Nd x t) (e : asR t = some r) : Good x t r := by
 by_cases hk : t.k = 6
 ·have hsz := h.gd.sz (by omega) (by omega)
  have hok := h.ok
  have hko := hok.kids
  have hf := qbY hok
  have hsc := h.sc
  cases h.sh with
  | az n u =>
   have e : (if qaO u then some (.num (u.n.tmod n) n) else none) = some r := e
   split at e
   ·rename_i hu
    simp only [Option.some.injEq] at e
    subst e
    have hs2 := hsz
    rw [qeR, Bool.and_eq_true, isSize_iff] at hs2
    have ra := qdR (x := x) hs2.1 hu
    have hr := qiL ra.1 hs2.2.1
    refine ⟨?_, hsz, by simp only [Tm.size, Tm.sizeL]; omega, qhK (by omega) (by omega)⟩
    rw [qeR, qdA, hs2.1, isSize_iff.2 hs2.2, isBelow_iff.2 hr]
   ·cases e
  | _ => simp only [Tm.k_mk] at hk; omega
 ·unfold asR at e; rw [if_neg hk] at e; cases e
theorem qoL {x : Sc} {t r : Tm} (h : Nd x t) (e : qkW x t = some r) : Good x t r := by
 by_cases hk : t.k = 6
 ·have hsz := h.gd.sz (by omega) (by omega)
  have hok := h.ok
  have hko := hok.kids
  have hf := qbY hok
  have hsc := h.sc
  cases h.sh with
  | az n u =>
   have e : (if !qaO u && decide ((szF x u).1 = n) then some u else none) = some r := e
   split at e
   ·rename_i hu
    simp only [Bool.and_eq_true, decide_eq_true_eq] at hu
    simp only [Option.some.injEq] at e
    subst e
    have hs2 := hsz
    rw [qeR, Bool.and_eq_true] at hs2
    refine ⟨?_, hsz, by simp only [Tm.size, Tm.sizeL]; omega, hko _ (by simp [Tm.ks])⟩
    rw [qeR, hs2.1, hs2.2, ← hu.2, Bool.and_self, ← hs2.1]
   ·cases e
  | _ => simp only [Tm.k_mk] at hk; omega
 ·unfold qkW at e; rw [if_neg hk] at e; cases e
theorem qka {x : Sc} {t r : Tm} (h : Nd x t) (e : qdv t = some r) : Good x t r := by
 by_cases hk : t.k = 5
 ·have hsz := h.gd.sz (by omega) (by omega)
  have hok := h.ok
  have hko := hok.kids
  have hf := qbY hok
  have hsc := h.sc
  cases h.sh with
  | op n m a b =>
   have e : (if (qkX n).isSome && (!qaO a && (qaO b && decide (b.n = (qkX n).getD 0))) then some a else none) = some r := e
   split at e
   ·rename_i hu
    simp only [Bool.and_eq_true] at hu
    simp only [Option.some.injEq] at e
    subst e
    have hs2 := hsz
    rw [qeQ] at hs2
    have hin : qbv m = true ∧ is2 (szF x a) m = true ∧ is2 (szF x b) m = true := by
     split at hs2
     ·simpa only [Bool.and_eq_true] using hs2
     ·split at hs2
      ·simpa only [Bool.and_eq_true] using hs2
      ·cases hs2
    obtain ⟨h1, h2, h3⟩ := hin
    have hn : n = 1 ∨ n = 2 ∨ n = 3 := by
     by_cases n1 : n = 1
     ·exact .inl n1
     ·by_cases n2 : n = 2
      ·exact .inr (.inl n2)
      ·by_cases n3 : n = 3
       ·exact .inr (.inr n3)
       ·have := hu.1
        simp only [qkX, n1, n2, n3, if_false, Option.isSome_none] at this
        cases this
    refine ⟨?_, hsz, by simp only [Tm.size, Tm.sizeL]; omega, hko _ (by simp [Tm.ks])⟩
    rw [qeQ, if_pos hn, h1, h2, h3]
    rw [is2_iff] at h2
    rw [h2]; rfl
   ·cases e
  | _ => simp only [Tm.k_mk] at hk; omega
 ·unfold qdv at e; rw [if_neg hk] at e; cases e
theorem qoM {x : Sc} {t r : Tm} (h : Nd x t) (e : qkY t = some r) : Good x t r := by
 by_cases hk : t.k = 5
 ·have hsz := h.gd.sz (by omega) (by omega)
  have hok := h.ok
  have hko := hok.kids
  have hf := qbY hok
  have hsc := h.sc
  cases h.sh with
  | op n m a b =>
   have e : (if (decide (n = 1) || (decide (n = 3) || decide (n = 4))) && (qaO a && !qaO b) then some (.op n m b a) else none) = some r := e
   split at e
   ·simp only [Option.some.injEq] at e
    subst e
    refine ⟨?_, hsz, by simp only [Tm.size, Tm.sizeL]; omega, ok2_of (by decide) hf.2.1 hf.2.2.1 z64 (hko _ (by simp [Tm.ks])) (hko _ (by simp [Tm.ks]))⟩
    rw [qeQ, qeQ, Bool.and_comm (is2 (szF x a) m)]
   ·cases e
  | _ => simp only [Tm.k_mk] at hk; omega
 ·unfold qkY at e; rw [if_neg hk] at e; cases e
theorem qsf {x : Sc} {t r : Tm} (h : Nd x t) (e : ifR t = some r) : Good x t r := by
 by_cases hk : t.k = 8
 ·have hsz := h.gd.sz (by omega) (by omega)
  have hok := h.ok
  have hko := hok.kids
  have hf := qbY hok
  have hsc := h.sc
  cases h.sh with
  | ite c a b =>
   have e : (if qaO c then some (if c.n = 0 then b else a) else none) = some r := e
   split at e
   ·simp only [Option.some.injEq] at e
    have hs2 := hsz
    rw [qci, Bool.and_eq_true, Bool.and_eq_true, is2_iff] at hs2
    have ha : szF x (.ite c a b) = szF x a := by
     rw [qci, hs2.1.1, hs2.1.2, hs2.2]
     simp only [is2, decide_true, Bool.and_true]
     rw [← hs2.1.1]
    split at e
    ·subst e
     refine ⟨?_, hsz, by simp only [Tm.size, Tm.sizeL]; omega, hko _ (by simp [Tm.ks])⟩
     rw [ha, hs2.1.2, ← hs2.1.1]
    ·subst e
     exact ⟨ha, hsz, by simp only [Tm.size, Tm.sizeL]; omega, hko _ (by simp [Tm.ks])⟩
   ·cases e
  | _ => simp only [Tm.k_mk] at hk; omega
 ·unfold ifR at e; rw [if_neg hk] at e; cases e
theorem qoN {x : Sc} {t r : Tm} (h : Nd x t) (e : qkZ t = some r) : Good x t r := by
 by_cases hk : t.k = 8
 ·have hsz := h.gd.sz (by omega) (by omega)
  have hok := h.ok
  have hko := hok.kids
  have hf := qbY hok
  have hsc := h.sc
  cases h.sh with
  | ite c a b =>
   have e : (if !qaO c && decide (a = b) then some (.seq (.az 1 c) a) else none) = some r := e
   split at e
   ·rename_i hu
    simp only [Bool.and_eq_true, decide_eq_true_eq] at hu
    simp only [Option.some.injEq] at e
    subst e
    have hs2 := hsz
    rw [qci, Bool.and_eq_true, Bool.and_eq_true, is2_iff] at hs2
    refine ⟨?_, hsz, ?_, ok2_of (by decide) z64 z64 z64 (ok1_of (by decide) o64 z64 z64 (hko _ (by simp [Tm.ks]))) (hko _ (by simp [Tm.ks]))⟩
    ·rw [qci, qbQ, qeR, hs2.1.1, hs2.1.2, hs2.2]
     simp only [is2, decide_true, Bool.and_true, Bool.true_and]
     rfl
    ·rw [← hu.2]
     simp only [Tm.size, Tm.sizeL]
     have := Tm.size_pos a
     omega
   ·cases e
  | _ => simp only [Tm.k_mk] at hk; omega
 ·unfold qkZ at e; rw [if_neg hk] at e; cases e
theorem qoO {x : Sc} {t r : Tm} (h : Nd x t) (e : qk0 x t = some r) : Good x t r := by
 by_cases hk : t.k = 8
 ·have hsz := h.gd.sz (by omega) (by omega)
  have hok := h.ok
  have hko := hok.kids
  have hf := qbY hok
  have hsc := h.sc
  cases h.sh with
  | ite c a b =>
   have e : (if qco a 1 2 && (qco b 0 2 && (!qaO c && decide ((szF x c).1 = 2))) then some c else none) = some r := e
   split at e
   ·rename_i hu
    simp only [Bool.and_eq_true, decide_eq_true_eq] at hu
    simp only [Option.some.injEq] at e
    subst e
    have hs2 := hsz
    rw [qci, Bool.and_eq_true, Bool.and_eq_true, is2_iff] at hs2
    have ha := qmQ hs2.1.1 hu.1
    refine ⟨?_, hsz, by simp only [Tm.size, Tm.sizeL]; omega, hko _ (by simp [Tm.ks])⟩
    have h1 : (szF x a).1 = 2 := by rw [ha, qdA]
    rw [qci, hs2.1.1, hs2.1.2, hs2.2, h1, ← hu.2.2.2]
    simp only [is2, decide_true, Bool.and_true]
    rw [← hs2.2]
   ·cases e
  | _ => simp only [Tm.k_mk] at hk; omega
 ·unfold qk0 at e; rw [if_neg hk] at e; cases e
theorem qoP {x : Sc} {t r : Tm} (h : Nd x t) (e : qk1 t = some r) : Good x t r := by
 by_cases hk : t.k = 7
 ·have hsz := h.gd.sz (by omega) (by omega)
  have hok := h.ok
  have hko := hok.kids
  have hf := qbY hok
  have hsc := h.sc
  cases h.sh with
  | seq a b =>
   have e : (if qaO a then some b else none) = some r := e
   split at e
   ·simp only [Option.some.injEq] at e
    subst e
    have hs2 := hsz
    rw [qbQ, Bool.and_eq_true] at hs2
    refine ⟨?_, hsz, by simp only [Tm.size, Tm.sizeL]; omega, hko _ (by simp [Tm.ks])⟩
    rw [qbQ, hs2.2, Bool.and_true]
   ·cases e
  | _ => simp only [Tm.k_mk] at hk; omega
 ·unfold qk1 at e; rw [if_neg hk] at e; cases e
theorem qoQ {x : Sc} {t r : Tm} (h : Nd x t) (e : qha x t = some r) : Good x t r := by
 by_cases hk : t.k = 7
 ·have hsz := h.gd.sz (by omega) (by omega)
  have hok := h.ok
  have hko := hok.kids
  have hf := qbY hok
  have hsc := h.sc
  cases h.sh with
  | seq a b =>
   have e : (if a.k = 12 ∨ a.k = 14 then (if !decide (b = .num 0 (szF x (.seq a b)).1) then some (.seq a (.num 0 (szF x (.seq a b)).1)) else none) else none) = some r := e
   split at e
   ·split at e
    ·simp only [Option.some.injEq] at e
     subst e
     have hr := qfV _ (.seq a b) x (Nat.le_refl _) hsc hsz
     have hs2 := hsz
     rw [qbQ, Bool.and_eq_true] at hs2
     refine ⟨?_, hsz, ?_, ok2_of (by decide) z64 z64 z64 (hko _ (by simp [Tm.ks])) (qhK (by omega) (by omega))⟩
     ·rw [qbQ, qbQ, qdA, hs2.1, hs2.2]
      rw [qbQ] at hr
      rw [isSize_iff.2 hr, isBelow_iff.2 (by omega)]; rfl
     ·simp only [Tm.size, Tm.sizeL]
      have := Tm.size_pos b
      omega
    ·cases e
   ·cases e
  | _ => simp only [Tm.k_mk] at hk; omega
 ·unfold qha at e; rw [if_neg hk] at e; cases e
theorem qmR {x : Sc} {t r : Tm} (h : Nd x t) (e : qgG t = some r) : Good x t r := by
 by_cases hk : t.k = 9
 ·have hsz := h.gd.sz (by omega) (by omega)
  have hok := h.ok
  have hko := hok.kids
  have hf := qbY hok
  have hsc := h.sc
  cases h.sh with
  | whl c b =>
   have e : (if qaO c && decide (c.n = 0) then some (.num 0 1) else none) = some r := e
   split at e
   ·simp only [Option.some.injEq] at e
    subst e
    have hs2 := hsz
    rw [qft] at hs2
    simp only at hs2
    refine ⟨?_, hsz, by simp only [Tm.size, Tm.sizeL]; omega, qhK (by decide) (by decide)⟩
    rw [qft, qdA, hs2]; rfl
   ·cases e
  | _ => simp only [Tm.k_mk] at hk; omega
 ·unfold qgG at e; rw [if_neg hk] at e; cases e
theorem qoR {x : Sc} {t r : Tm} (h : Nd x t) (e : qk2 t = some r) : Good x t r := by
 by_cases hk : t.k = 11
 ·have hsz := h.gd.sz (by omega) (by omega)
  have hok := h.ok
  have hko := hok.kids
  have hf := qbY hok
  have hsc := h.sc
  cases h.sh with
  | lbl u w =>
   have e : (if decide (u.k = 12) && decide (u.n = 0) then some w else none) = some r := e
   split at e
   ·simp only [Option.some.injEq] at e
    subst e
    have hs2 := hsz
    rw [qd9, Bool.and_eq_true, is2_iff] at hs2
    refine ⟨?_, hsz, by simp only [Tm.size, Tm.sizeL]; omega, hko _ (by simp [Tm.ks])⟩
    rw [qd9, hs2.1, hs2.2]
    simp only [is2, decide_true, Bool.and_true]
   ·cases e
  | _ => simp only [Tm.k_mk] at hk; omega
 ·unfold qk2 at e; rw [if_neg hk] at e; cases e
theorem qk8 {x : Sc} {t r : Tm} (h : Nd x t) (e : qeu t = some r) : Good x t r := by
 by_cases hk : t.k = 13
 ·have hsz := h.gd.sz (by omega) (by omega)
  have hok := h.ok
  have hko := hok.kids
  have hf := qbY hok
  have hsc := h.sc
  cases h.sh with
  | cho a b =>
   have e : (if decide (a = b) then some a else none) = some r := e
   split at e
   ·simp only [Option.some.injEq] at e
    subst e
    have hs2 := hsz
    rw [qea, Bool.and_eq_true, is2_iff] at hs2
    refine ⟨?_, hsz, by simp only [Tm.size, Tm.sizeL]; omega, hko _ (by simp [Tm.ks])⟩
    rw [qea, hs2.1, hs2.2]
    simp only [is2, decide_true, Bool.and_true]
    rw [← hs2.1]
   ·cases e
  | _ => simp only [Tm.k_mk] at hk; omega
 ·unfold qeu at e; rw [if_neg hk] at e; cases e
theorem qmS {x : Sc} {t r : Tm} (h : Nd x t) (e : qfv t = some r) : Good x t r := by
 by_cases hk : t.k = 13
 ·have hsz := h.gd.sz (by omega) (by omega)
  have hok := h.ok
  have hko := hok.kids
  have hf := qbY hok
  have hsc := h.sc
  cases h.sh with
  | cho a b =>
   have e : (if a.k = 14 then some b else if b.k = 14 then some a else none) = some r := e
   have hs2 := hsz
   rw [qea, Bool.and_eq_true, is2_iff] at hs2
   have ha : szF x (.cho a b) = szF x a := by
    rw [qea, hs2.1, hs2.2]
    simp only [is2, decide_true, Bool.and_true]
    rw [← hs2.1]
   split at e
   ·simp only [Option.some.injEq] at e
    subst e
    refine ⟨?_, hsz, by simp only [Tm.size, Tm.sizeL]; omega, hko _ (by simp [Tm.ks])⟩
    rw [ha, hs2.2, ← hs2.1]
   ·split at e
    ·simp only [Option.some.injEq] at e
     subst e
     exact ⟨ha, hsz, by simp only [Tm.size, Tm.sizeL]; omega, hko _ (by simp [Tm.ks])⟩
    ·cases e
  | _ => simp only [Tm.k_mk] at hk; omega
 ·unfold qfv at e; rw [if_neg hk] at e; cases e
theorem qk9 {x : Sc} {t r : Tm} (h : Nd x t) (e : qev x t = some r) : Good x t r := by
 by_cases hk : t.k = 18
 ·have hsz := h.gd.sz (by omega) (by omega)
  have hok := h.ok
  have hko := hok.kids
  have hf := qbY hok
  have hsc := h.sc
  cases h.sh with
  | ntc n i u =>
   have e : (if !u.any (qj6 x.top) 0 then some u else none) = some r := e
   split at e
   ·simp only [Option.some.injEq] at e
    subst e
    have hs2 := hsz
    rw [qec, Bool.and_eq_true] at hs2
    refine ⟨?_, hsz, by simp only [Tm.size, Tm.sizeL]; omega, hko _ (by simp [Tm.ks])⟩
    rw [qec, hs2.2, Bool.and_true]
   ·cases e
  | _ => simp only [Tm.k_mk] at hk; omega
 ·unfold qev at e; rw [if_neg hk] at e; cases e
theorem qqf {x : Sc} {t r : Tm} (h : Nd x t) (e : qp3 t = some r) : Good x t r := by
 by_cases hk : t.k = 8
 ·have hsz := h.gd.sz (by omega) (by omega)
  have hok := h.ok
  have hko := hok.kids
  have hf := qbY hok
  have hsc := h.sc
  cases h.sh with
  | ite c a b =>
   have e : (if c.k = 8 then (match c.ks with | [p, q, r] => if qco q 0 2 && qco r 1 2 then some (.ite p b a) else none | _ => none) else none) = some r := e
   have hs2 := hsz
   rw [qci, Bool.and_eq_true, Bool.and_eq_true, is2_iff] at hs2
   have oc := hko c (by simp [Tm.ks])
   split at e
   ·rename_i hk
    cases qdu hs2.2 with
    | ite p q r' =>
     have e : (if qco q 0 2 && qco r' 1 2 then some (.ite p b a) else none) = some r := e
     split at e
     ·simp only [Option.some.injEq] at e
      subst e
      have hc := hs2.2
      rw [qci, Bool.and_eq_true] at hc
      refine ⟨?_, hsz, ?_, ok3_of (by decide) z64 z64 z64 (oc.kids p (by simp [Tm.ks])) (hko b (by simp [Tm.ks])) (hko a (by simp [Tm.ks]))⟩
      ·have hA : szF x a = ((szF x a).1, true) := by rw [← hs2.1.1]
       have hB := hs2.1.2
       rw [qci x (.ite p q r') a b, qci x p b a, hs2.2, hc.2, hB, hA]
      ·simp only [Tm.size, Tm.sizeL]; omega
     ·cases e
    | _ => simp only [Tm.k_mk] at hk; omega
   ·cases e
  | _ => simp only [Tm.k_mk] at hk; omega
 ·unfold qp3 at e; rw [if_neg hk] at e; cases e
theorem qoS {x : Sc} {t r : Tm} (h : Nd x t) (e : qiE t = some r) : Good x t r := by
 by_cases hk : t.k = 7
 ·have hsz := h.gd.sz (by omega) (by omega)
  have hok := h.ok
  have hko := hok.kids
  have hf := qbY hok
  have hsc := h.sc
  cases h.sh with
  | seq a b =>
   have e : (if a.k = 7 then (match a.ks with | [p, q] => some (.seq p (.seq q b)) | _ => none) else none) = some r := e
   have hs2 := hsz
   rw [qbQ, Bool.and_eq_true, is2_iff] at hs2
   have oa := hko a (by simp [Tm.ks])
   split at e
   ·rename_i hk
    cases qdu (x := x) (t := a) (by rw [hs2.2]) with
    | seq p q =>
     have e : some (Tm.seq p (.seq q b)) = some r := e
     simp only [Option.some.injEq] at e
     subst e
     have hc := hs2.2
     rw [qbQ] at hc
     simp only [Prod.mk.injEq, Bool.and_eq_true] at hc
     refine ⟨?_, hsz, ?_, ok2_of (by decide) z64 z64 z64 (oa.kids p (by simp [Tm.ks])) (ok2_of (by decide) z64 z64 z64 (oa.kids q (by simp [Tm.ks])) (hko b (by simp [Tm.ks])))⟩
     ·have hp : szF x p = (1, true) := is2_iff.1 (by simp only [is2, Bool.and_eq_true]; exact hc.2.2)
      rw [qbQ x (.seq p q) b, hs2.2, qbQ x p, qbQ x q b, hp]
      simp only [is2, hc.1, hc.2.1, decide_true, Bool.and_true]
     ·simp only [Tm.size, Tm.sizeL]; omega
    | _ => simp only [Tm.k_mk] at hk; omega
   ·cases e
  | _ => simp only [Tm.k_mk] at hk; omega
 ·unfold qiE at e; rw [if_neg hk] at e; cases e
theorem qmT {x : Sc} {t r : Tm} (h : Nd x t) (e : qeT x t = some r) : Good x t r := by
 by_cases hk : t.k = 7
 ·have hsz := h.gd.sz (by omega) (by omega)
  have hok := h.ok
  have hko := hok.kids
  have hf := qbY hok
  have hsc := h.sc
  cases h.sh with
  | seq p q =>
   have e : (if p.k = 4 then (match p.ks with | [u] => if decide (q.k = 3) && (decide (p.i = q.i) && (decide (x.top < p.i) && qaO u)) then some (.seq p u) else none | _ => none) else none) = some r := e
   have hs2 := hsz
   rw [qbQ, Bool.and_eq_true, is2_iff] at hs2
   have op := hko p (by simp [Tm.ks])
   split at e
   ·rename_i hk
    cases qdu (x := x) (t := p) (by rw [hs2.2]) with
    | put i u =>
     have e : (if decide (q.k = 3) && (decide (i = q.i) && (decide (x.top < i) && qaO u)) then some (.seq (.put i u) u) else none) = some r := e
     split at e
     ·rename_i hu
      simp only [Bool.and_eq_true, decide_eq_true_eq] at hu
      simp only [Option.some.injEq] at e
      subst e
      have hk := hu.1
      cases qdu hs2.1 with
      | get j =>
       have hij : i = j := hu.2.1
       subst hij
       have hc := hs2.2
       rw [qeP] at hc
       simp only [Prod.mk.injEq, Bool.and_eq_true, true_and] at hc
       have hcu : szF x u = (((x.get i).getD .none).ty.res.n, true) := is2_iff.1 (by simp only [is2, Bool.and_eq_true]; exact hc.2)
       refine ⟨?_, hsz, ?_, ok2_of (by decide) z64 z64 z64 op (op.kids u (by simp [Tm.ks]))⟩
       ·rw [qbQ, qbQ, hs2.2, qhE, hcu, hc.1]
       ·simp only [Tm.size, Tm.sizeL]
        obtain ⟨n, m, rfl⟩ := qfg (qdu (x := x) (t := u) (by rw [hcu])) hu.2.2.2
        simp only [Tm.size, Tm.sizeL]; omega
      | _ => simp only [Tm.k_mk] at hk; omega
     ·cases e
    | _ => simp only [Tm.k_mk] at hk; omega
   ·cases e
  | _ => simp only [Tm.k_mk] at hk; omega
 ·unfold qeT at e; rw [if_neg hk] at e; cases e
end Go.AI.Tryz
namespace Go.AI.Tryz
abbrev up (x : Sc) : Sc := { x with size := x.size + 1 }
theorem qiM (g : Tm → Int → Tm) (lab : Bool) (l : Int) : ∀ (ks : List Tm) (j : Nat), (Tm.chgK g lab l j ks).length = ks.length
 | [], _ => by simp only [Tm.chgK]
 | u :: r, j => by simp only [Tm.chgK, List.length_cons, qiM g lab l r]
theorem qma (g : Tm → Int → Tm) (lab : Bool) (l : Int) : ∀ (ks : List Tm) (j : Nat) (w : Tm), w ∈ Tm.chgK g lab l j ks → ∃ u ∈ ks, ∃ l', w = Tm.chg g u l' ∧ (l' = l ∨ l' = l + 1)
 | [], _, w, h => by simp only [Tm.chgK] at h; cases h
 | u :: r, j, w, h => by
  simp only [Tm.chgK] at h
  rcases List.mem_cons.1 h with rfl | h
  ·exact ⟨u, List.mem_cons_self .., _, rfl, by split <;> simp⟩
  ·obtain ⟨v, hv, l', e⟩ := qma g lab l r (j + 1) w h
   exact ⟨v, List.mem_cons_of_mem _ hv, l', e⟩
theorem qla {is : Tm → Int → Bool} {lab : Bool} {l : Int} : ∀ {ks : List Tm} {j i : Nat} {w : Tm}, Tm.anyK is lab l j ks = false → ks[i]? = some w → Tm.any is w (if lab && decide (j + i = 0) then l + 1 else l) = false
 | [], _, i, w, _, h => by simp at h
 | u :: r, j, 0, w, h, hi => by
  simp only [Tm.anyK, Bool.or_eq_false_iff] at h
  simp only [List.getElem?_cons_zero, Option.some.injEq] at hi
  subst hi
  exact h.1
 | u :: r, j, i + 1, w, h, hi => by
  simp only [Tm.anyK, Bool.or_eq_false_iff] at h
  have := qla h.2 (show r[i]? = some w by simpa using hi)
  rw [show j + (i + 1) = j + 1 + i by omega]
  exact this
theorem LkK.chg {g : Tm → Int → Tm} {lab : Bool} {l : Int} {sx sy : Nat → Sc} : ∀ (ks : List Tm) (j : Nat), (∀ i w, ks[i]? = some w → Lk (sx (j + i)) w (sy (j + i)) (Tm.chg g w (if lab && decide (j + i = 0) then l + 1 else l))) → LkK sx sy j ks (Tm.chgK g lab l j ks)
 | [], _, _ => by simp only [Tm.chgK]; exact trivial
 | u :: r, j, h => by
  simp only [Tm.chgK]
  refine ⟨h 0 u rfl, LkK.chg r (j + 1) fun i w hi => ?_⟩
  have := h (i + 1) w (by simpa using hi)
  rw [show j + 1 + i = j + (i + 1) by omega]
  exact this
theorem qmb (g : Tm → Int → Tm) : ∀ (d : Nat) (t : Tm) (l : Int), t.size ≤ d → (Tm.chg g t l).size = t.size
 | 0, t, _, h => by have := Tm.size_pos t; omega
 | d + 1, t, l, h => by
  have hk : ∀ (ks : List Tm) (lab : Bool) (j : Nat), (∀ w ∈ ks, w.size ≤ d) → Tm.sizeL (Tm.chgK g lab l j ks) = Tm.sizeL ks := by
   intro ks
   induction ks with
   | nil => intro lab j _; simp only [Tm.chgK]
   | cons u r ih =>
    intro lab j hs
    simp only [Tm.chgK, Tm.sizeL]
    rw [qmb g d u _ (hs u (List.mem_cons_self ..)), ih lab (j + 1) fun w hw => hs w (List.mem_cons_of_mem _ hw)]
  have h1 := Tm.size_ks t
  have h2 := Tm.size_ks (Tm.chg g t l)
  have h3 : (Tm.chg g t l).ks = Tm.chgK g (decide (t.k = 11)) l 0 t.ks := by rw [Tm.chg_eq]; rfl
  rw [h3, hk t.ks _ 0 fun w hw => by have := qa3 hw; omega] at h2
  omega
theorem qqY : ∀ (d : Nat) (t : Tm) (l : Int), t.size ≤ d → 0 ≤ l → t.Ok → (Tm.chg qc2 t l).Ok
 | 0, t, _, h, _, _ => by have := Tm.size_pos t; omega
 | d + 1, t, l, h, hl, hok => by
  have hf := qbY hok
  rw [Tm.chg_eq]
  have hn : -9223372036854775808 ≤ (qc2 t l).n ∧ (qc2 t l).n ≤ 9223372036854775807 := by
   unfold qc2
   split
   ·simp only [Tm.n_mk]; omega
   ·exact hf.2.1
  have hm : (qc2 t l).m = t.m := by unfold qc2; split <;> rfl
  have hi : (qc2 t l).i = t.i := by unfold qc2; split <;> rfl
  refine .mk ?_ hn ?_ ?_ ?_ ?_
  ·rw [(qgI t l).2]; exact hf.1
  ·rw [hm]; exact hf.2.2.1
  ·rw [hi]; exact hf.2.2.2
  ·rw [qiM]; exact hok.len
  ·intro w hw
   obtain ⟨u, hu, l', rfl, hl'⟩ := qma _ _ _ _ _ _ hw
   exact qqY d u l' (by have := qa3 hu; omega) (by omega) (hok.kids u hu)
theorem qtR {x : Sc} {t t' : Tm} (hk : t'.k = t.k) (hn : t.k ≠ 12 → t'.n = t.n) (h17 : t.k = 17 → (szF (up x) (t.ks.headD .z)).1 = (szF x (t'.ks.headD .z)).1) (j : Nat) : (up x).kid t j = up (x.kid t' j) ∧ (x.kid t' j).size = if decide (t.k = 11) && decide (j = 0) then x.size + 1 else x.size := by
 unfold Sc.kid
 rw [hk]
 by_cases h10 : t.k = 10
 ·have h11 : ¬ t.k = 11 := by omega
  rw [if_pos h10, if_pos h10, hn (by omega)]
  exact ⟨rfl, by simp only [h11, decide_false, Bool.false_and, Bool.false_eq_true, if_false]; rfl⟩
 ·rw [if_neg h10, if_neg h10]
  by_cases h17' : t.k = 17 ∧ j = 1
  ·have h11 : ¬ t.k = 11 := by omega
   rw [if_pos h17', if_pos h17', h17 h17'.1]
   exact ⟨rfl, by simp only [h11, decide_false, Bool.false_and, Bool.false_eq_true, if_false]; rfl⟩
  ·rw [if_neg h17', if_neg h17']
   by_cases h11 : t.k = 11 ∧ j = 0
   ·rw [if_pos h11, if_pos h11]
    exact ⟨rfl, by simp only [h11.1, h11.2, decide_true, Bool.and_self, if_true]⟩
   ·rw [if_neg h11, if_neg h11]
    refine ⟨rfl, ?_⟩
    rw [if_neg (by simpa using h11)]
theorem qqZ : ∀ (d : Nat) (t : Tm) (x : Sc) (l : Int), t.size ≤ d → Nd (up x) t → t.any qfw l = false → 0 ≤ l → l ≤ x.size → Lk (up x) t x (Tm.chg qc2 t l)
 | 0, t, _, _, h, _, _, _, _ => by have := Tm.size_pos t; omega
 | d + 1, t, x, l, hd, hn, ha, hl, hlx => by
  rw [Tm.any_eq, Bool.or_eq_false_iff] at ha
  have hk' : (Tm.chg qc2 t l).k = t.k := by rw [Tm.chg_eq]; exact (qgI t l).2
  have hks' : (Tm.chg qc2 t l).ks = Tm.chgK qc2 (decide (t.k = 11)) l 0 t.ks := by rw [Tm.chg_eq]; rfl
  have hn' : t.k ≠ 12 → (Tm.chg qc2 t l).n = t.n := fun h => by
   rw [Tm.chg_eq]
   show (qc2 t l).n = _
   unfold qc2
   rw [if_neg (fun h' => h h'.1)]
  have hm' : (Tm.chg qc2 t l).m = t.m := by rw [Tm.chg_eq]; show (qc2 t l).m = _; unfold qc2; split <;> rfl
  have hi' : (Tm.chg qc2 t l).i = t.i := by rw [Tm.chg_eq]; show (qc2 t l).i = _; unfold qc2; split <;> rfl
  have IH : ∀ i w, t.ks[i]? = some w → ∀ z, (up x).kid t i = up z → z.size = (if decide (t.k = 11) && decide (i = 0) then x.size + 1 else x.size) → Lk ((up x).kid t i) w z (Tm.chg qc2 w (if decide (t.k = 11) && decide (i = 0) then l + 1 else l)) := by
   intro i w hi z hz hzs
   have h1 := hn.kid hi
   have h2 := qla ha.2 hi
   rw [Nat.zero_add] at h2
   rw [hz] at h1 ⊢
   refine qqZ d w z _ (by have := qa3 (List.mem_of_getElem? hi); omega) h1 h2 ?_ ?_
   ·split <;> omega
   ·rw [hzs]; split <;> omega
  have h17 : t.k = 17 → (szF (up x) (t.ks.headD .z)).1 = (szF x ((Tm.chg qc2 t l).ks.headD .z)).1 := fun h17 => by
   rw [hks']
   have h11 : ¬ t.k = 11 := by omega
   cases hks : t.ks with
   | nil =>
    have := hn.sh
    cases this <;> simp [Tm.k, Tm.ks] at h17 hks
   | cons u r =>
    have := IH 0 u (by rw [hks]; rfl) x (qgN h17) (by simp only [h11, decide_false, Bool.false_and, Bool.false_eq_true, if_false])
    rw [qgN h17] at this
    simp only [h11, decide_false, Bool.false_and, Bool.false_eq_true, if_false] at this
    simp only [Tm.chgK, List.headD_cons, h11, decide_false, Bool.false_and, Bool.false_eq_true, if_false]
    rw [this.1]
  have hku := fun j => qtR (x := x) hk' hn' h17 j
  refine Lk.node hn.sh ?_ hk' hm' hn' ?_ ?_ ?_ ?_
  ·refine qol ?_
   have h1 := qcF hn.sh
   by_cases h12 : t.k = 12
   ·cases hn.sh with
    | jmp n =>
     rw [Tm.chg_eq]
     have : (qc2 (.jmp n) l).k = 12 ∧ (qc2 (.jmp n) l).m = 0 ∧ (qc2 (.jmp n) l).i = 0 := by unfold qc2; split <;> exact ⟨rfl, rfl, rfl⟩
     rw [this.1, this.2.1, this.2.2]
     exact qcF (.jmp _)
    | _ => simp only [Tm.k_mk] at h12; omega
   ·have e : Tm.chg qc2 t l = t.with (Tm.chgK qc2 (decide (t.k = 11)) l 0 t.ks) := by
     rw [Tm.chg_eq]
     unfold qc2
     rw [if_neg (fun h' => h12 h'.1)]
     rfl
    rw [e]
    exact qcF (qk7 hn.sh (qiM ..))
  ·intro h12
   have hle : qfw t l = false := ha.1
   simp only [qfw, h12, decide_true, Bool.true_and, decide_eq_false_iff_not] at hle
   rw [Tm.chg_eq]
   show qbt t.n (x.size + 1) = qbt (qc2 t l).n x.size
   unfold qc2
   rw [Bool.eq_iff_iff, isBelow_iff, isBelow_iff]
   split
   ·rename_i h; simp only [Tm.n_mk]; omega
   ·rename_i h
    have : ¬ l < t.n := fun h' => h ⟨h12, h'⟩
    omega
  ·rw [hi']; rfl
  ·intro _; rw [hi']
  ·rw [hks']
   refine LkK.chg t.ks 0 fun i w hi => ?_
   rw [Nat.zero_add]
   exact IH i w hi _ (hku i).1 (hku i).2
theorem qmU {x : Sc} {t r : Tm} (h : Nd x t) (e : qgK t = some r) : Good x t r := by
 by_cases hk : t.k = 11
 ·have hsz := h.gd.sz (by omega) (by omega)
  have hok := h.ok
  have hko := hok.kids
  have hB := h.b
  cases hs : h.sh with
  | lbl u w =>
   have e : (if !qj5 u then some (Tm.unl u) else none) = some r := e
   split at e
   ·rename_i hu
    simp only [Option.some.injEq] at e
    subst e
    have hs2 := hsz
    rw [qd9, Bool.and_eq_true, is2_iff] at hs2
    have hnu : Nd (up x) u := h.kid (t := .lbl u w) (u := u) (j := 0) rfl
    have htr := qqZ u.size u x 0 (Nat.le_refl _) hnu (by simpa [qj5] using hu) (by decide) hB.2.1
    refine ⟨?_, hsz, ?_, qqY u.size u 0 (Nat.le_refl _) (by decide) (hko u (by simp [Tm.ks]))⟩
    ·show _ = szF x (Tm.chg qc2 u 0)
     rw [qd9, hs2.1, hs2.2, ← htr.1]
     simp only [is2, decide_true, Bool.and_true]
     rw [← hs2.1]
    ·show (Tm.chg qc2 u 0).size ≤ _
     rw [qmb qc2 u.size u 0 (Nat.le_refl _)]
     simp only [Tm.size, Tm.sizeL]; omega
   ·cases e
  | _ => simp only [Tm.k_mk] at hk; omega
 ·unfold qgK at e; rw [if_neg hk] at e; cases e
end Go.AI.Tryz
namespace Go.AI.Tryz
structure Rm (N id : Int) (X Y : Sc) : Prop where
 ex : ∃ A B, X.ids = A ++ (⟨⟨[], ⟨true, N⟩⟩, false⟩ : Se) :: B ∧ Y.ids = A ++ B ∧ id = Int.ofNat A.length + 1
 top : Y.top = X.top
 size : Y.size = X.size
 lt : X.top < id
abbrev sh1 (id i : Int) : Int := if id < i then i - 1 else i
theorem Rm.pos {N id : Int} {X Y : Sc} (h : Rm N id X Y) : 1 ≤ id := by
 obtain ⟨A, B, _, _, e⟩ := h.ex
 have : (0 : Int) ≤ Int.ofNat A.length := Int.natCast_nonneg _
 omega
theorem Rm.get {N id : Int} {X Y : Sc} (h : Rm N id X Y) {i : Int} (hi : i ≠ id) : X.get i = Y.get (sh1 id i) := by
 obtain ⟨A, B, hX, hY, he⟩ := h.ex
 have hp := h.pos
 simp only [Int.ofNat_eq_natCast] at he
 unfold Sc.get sh1
 by_cases h1 : i < 1
 ·rw [if_pos h1, if_neg (show ¬ id < i by omega), if_pos h1]
 ·by_cases h2 : id < i
  ·rw [if_neg h1, if_pos h2, if_neg (by omega), hX, hY]
   have e1 : (i - 1).toNat = A.length + ((i - 1 - 1).toNat - A.length) + 1 := by omega
   rw [List.getElem?_append_right (by omega), List.getElem?_append_right (by omega)]
   rw [show (i - 1).toNat - A.length = ((i - 1 - 1).toNat - A.length) + 1 by omega, List.getElem?_cons_succ]
  ·rw [if_neg h1, if_neg h2, if_neg h1, hX, hY]
   rw [List.getElem?_append_left (by omega), List.getElem?_append_left (by omega)]
theorem Rm.at {N id : Int} {X Y : Sc} (h : Rm N id X Y) : X.get id = some ⟨⟨[], ⟨true, N⟩⟩, false⟩ := by
 obtain ⟨A, B, hX, hY, he⟩ := h.ex
 simp only [Int.ofNat_eq_natCast] at he
 unfold Sc.get
 rw [if_neg (by omega), hX, show (id - 1).toNat = A.length by omega]
 rw [List.getElem?_append_right (Nat.le_refl _), Nat.sub_self]; rfl
theorem Rm.with {N id : Int} {X Y : Sc} (h : Rm N id X Y) (y : Se) : Rm N id (X.with y) (Y.with y) := by
 obtain ⟨A, B, hX, hY, he⟩ := h.ex
 exact ⟨⟨A, B ++ [y], by simp only [Sc.with, hX, List.append_assoc, List.cons_append], by simp only [Sc.with, hY, List.append_assoc], he⟩, h.top, h.size, h.lt⟩
theorem Rm.up {N id : Int} {X Y : Sc} (h : Rm N id X Y) : Rm N id (up X) (up Y) := ⟨h.ex, h.top, by show Y.size + 1 = X.size + 1; rw [h.size], h.lt⟩
theorem Rm.kid {N id : Int} {X Y : Sc} (h : Rm N id X Y) {t t' : Tm} (hk : t'.k = t.k) (hn : t'.n = t.n) (h17 : t.k = 17 → (szF X (t.ks.headD .z)).1 = (szF Y (t'.ks.headD .z)).1) (j : Nat) : Rm N id (X.kid t j) (Y.kid t' j) := by
 unfold Sc.kid
 rw [hk, hn]
 by_cases h10 : t.k = 10
 ·rw [if_pos h10, if_pos h10]; exact h.with _
 ·rw [if_neg h10, if_neg h10]
  by_cases h17' : t.k = 17 ∧ j = 1
  ·rw [if_pos h17', if_pos h17', h17 h17'.1]; exact h.with _
  ·rw [if_neg h17', if_neg h17']
   by_cases h11 : t.k = 11 ∧ j = 0
   ·rw [if_pos h11, if_pos h11]; exact h.up
   ·rw [if_neg h11, if_neg h11]; exact h
theorem qvg {t : Tm} (h : Sh t) {i : Int} {ks : List Tm} (hi : t.i = 0 → i = 0) (hl : ks.length = t.ks.length) : Sh (.mk t.k t.n t.m i ks) := by
 have h1 := qcF h
 refine qol ?_
 obtain ⟨k, n, m, i0, l⟩ := t
 simp only [Tm.ks, Tm.i] at hl hi
 have h1 : (match qch formL k with | none => false | some f => (((f.n || decide (n = 0)) && (f.m || decide (m = 0))) && (f.i || decide (i0 = 0))) && (decide (f.k < 0) || decide (f.k = Int.ofNat l.length))) = true := h1
 show (match qch formL k with | none => false | some f => (((f.n || decide (n = 0)) && (f.m || decide (m = 0))) && (f.i || decide (i = 0))) && (decide (f.k < 0) || decide (f.k = Int.ofNat ks.length))) = true
 cases hf : qch formL k with
 | none => rw [hf] at h1; cases h1
 | some f =>
  rw [hf] at h1
  simp only [Bool.and_eq_true, Bool.or_eq_true, decide_eq_true_eq, hl] at h1 ⊢
  refine ⟨⟨h1.1.1, ?_⟩, h1.2⟩
  rcases h1.1.2 with h | h
  ·exact .inl h
  ·exact .inr (hi h)
theorem qoT (id : Int) (val : Tm) : ∀ ks : List Tm, (woL id val ks).length = ks.length
 | [] => rfl
 | u :: r => by simp only [woL, List.length_cons, qoT id val r]
theorem qoU (id : Int) (val : Tm) : ∀ (ks : List Tm) (w : Tm), w ∈ woL id val ks → ∃ u ∈ ks, w = woF id val u
 | [], w, h => by simp only [woL] at h; cases h
 | u :: r, w, h => by
  simp only [woL] at h
  rcases List.mem_cons.1 h with rfl | h
  ·exact ⟨u, List.mem_cons_self .., rfl⟩
  ·obtain ⟨v, hv, e⟩ := qoU id val r w h
   exact ⟨v, List.mem_cons_of_mem _ hv, e⟩
theorem LkK.wo {id : Int} {val : Tm} {sx sy : Nat → Sc} : ∀ (ks : List Tm) (j : Nat), (∀ i w, ks[i]? = some w → Lk (sx (j + i)) w (sy (j + i)) (woF id val w)) → LkK sx sy j ks (woL id val ks)
 | [], _, _ => by simp only [woL]; exact trivial
 | u :: r, j, h => by
  simp only [woL]
  refine ⟨h 0 u rfl, LkK.wo r (j + 1) fun i w hi => ?_⟩
  have := h (i + 1) w (by simpa using hi)
  rw [show j + 1 + i = j + (i + 1) by omega]
  exact this
structure WoOk (X Y : Sc) (t r : Tm) : Prop where
 tr : Lk X t Y r
 size : r.size ≤ t.size
 ok : r.Ok
theorem qtS {N id : Int} {val : Tm} (hv : ∀ Y, szF Y val = (N, true)) (hvs : val.size = 1) (hvo : val.Ok) : ∀ (d : Nat) (t : Tm) (X Y : Sc) (l : Int), t.size ≤ d → Rm N id X Y → Nd X t → t.any (isH id) l = false → WoOk X Y t (woF id val t)
 | 0, t, _, _, _, h, _, _, _ => by have := Tm.size_pos t; omega
 | d + 1, t, X, Y, l, hd, hr, hn, ha => by
  rw [Tm.any_eq, Bool.or_eq_false_iff] at ha
  have hp := hr.pos
  have hsz := hn.gd.sz
  have IH : ∀ i w, t.ks[i]? = some w → ∀ Z, Rm N id (X.kid t i) Z → WoOk (X.kid t i) Z w (woF id val w) := fun i w hi Z hz =>
   qtS hv hvs hvo d w _ Z _ (by have := qa3 (List.mem_of_getElem? hi); omega) hz (hn.kid hi) (qla ha.2 hi)
  have hf := qbY hn.ok
  rw [qtC]
  by_cases hi : t.i = id
  ·rw [if_pos hi]
   have hko := hn.ok.kids
   cases hs : hn.sh with
   | get i =>
    have hi : i = id := hi
    subst hi
    rw [if_pos (show (Tm.get i).k = 3 from rfl)]
    have h1 : szF X (.get i) = (N, true) := by rw [qhE, hr.at]; rfl
    exact ⟨Lk.of_ok (by rw [h1, hv]) (by rw [h1]), by rw [hvs]; exact Tm.size_pos _, hvo⟩
   | put i u =>
    have hi : i = id := hi
    subst hi
    have hz := hsz (by simp [Tm.k]) (by simp [Tm.k])
    obtain ⟨h1, h2, h3⟩ := IH 0 u rfl Y hr
    have h1 : szF X u = szF Y (woF i val u) := h1.1
    have hz2 := hz
    rw [qeP, hr.at, Bool.and_eq_true] at hz2
    have hu : szF X u = (N, true) := is2_iff.1 hz2.2
    rw [if_neg (by simp [Tm.k]), if_pos (show (Tm.put i u).k = 4 from rfl)]
    show WoOk X Y (.put i u) (.az 1 (woF i val u))
    refine ⟨Lk.of_ok ?_ hz, by simp only [Tm.size, Tm.sizeL]; omega, ok1_of (by decide) o64 z64 z64 h3⟩
    rw [qeP, hr.at, qeR, ← h1, hu]
    simp only [is2, Option.getD_some, decide_true, Bool.and_true, Bool.true_and, Option.any_some]
    rfl
   | ntc n i u =>
    have hi : i = id := hi
    subst hi
    have hz := hsz (by simp [Tm.k]) (by simp [Tm.k])
    obtain ⟨h1, h2, h3⟩ := IH 0 u rfl Y hr
    have h1 : szF X u = szF Y (woF i val u) := h1.1
    have hz2 := hz
    rw [qec, Bool.and_eq_true] at hz2
    rw [if_neg (by simp [Tm.k]), if_neg (by simp [Tm.k]), if_pos (show (Tm.ntc n i u).k = 18 from rfl)]
    show WoOk X Y (.ntc n i u) (woF i val u)
    refine ⟨Lk.of_ok ?_ hz, by simp only [Tm.size, Tm.sizeL]; omega, h3⟩
    rw [qec, ← h1, hz2.2, Bool.and_true]
   | use i ks =>
    have hi : i = id := hi
    subst hi
    have hz := hsz (by simp [Tm.k]) (by simp [Tm.k])
    rw [qgF, hr.at] at hz
    simp only [Option.getD_some, Bool.not_true, Bool.false_and, Bool.and_false] at hz
    cases hz
   | val i =>
    have hi : i = id := hi
    subst hi
    have hz := hsz (by simp [Tm.k]) (by simp [Tm.k])
    rw [qhF, hr.at] at hz
    simp only [Option.getD_some, Bool.and_false] at hz
    cases hz
   | cel i =>
    have hi : i = id := hi
    subst hi
    have := ha.1
    simp only [isH, Tm.i_mk, Tm.k_mk, decide_true, Bool.and_self] at this
    cases this
   | _ => exfalso; simp only [Tm.i_mk] at hi; omega
  ·rw [if_neg hi]
   have h17 : t.k = 17 → (szF X (t.ks.headD .z)).1 = (szF Y ((woL id val t.ks).headD .z)).1 := fun h17 => by
    cases hks : t.ks with
    | nil =>
     have := hn.sh
     cases this <;> simp [Tm.k, Tm.ks] at h17 hks
    | cons u r =>
     have := (IH 0 u (by rw [hks]; rfl) Y (by rw [qgN h17]; exact hr)).tr
     rw [qgN h17] at this
     simp only [woL, List.headD_cons]
     rw [this.1]
   have hkid : ∀ j, Rm N id (X.kid t j) (Y.kid (.mk t.k t.n t.m (sh1 id t.i) (woL id val t.ks)) j) := fun j => hr.kid (t := t) (t' := .mk t.k t.n t.m (sh1 id t.i) (woL id val t.ks)) rfl rfl h17 j
   have hl : (woL id val t.ks).length = t.ks.length := qoT ..
   refine ⟨?_, ?_, ?_⟩
   ·refine Lk.node hn.sh (qvg hn.sh (fun h0 => ?_) hl) rfl rfl (fun _ => rfl) (fun h12 => ?_) (hr.get hi) (fun _ => ?_) (LkK.wo t.ks 0 fun i w hi => ?_)
    ·rw [h0, if_neg (by omega)]
    ·rw [hr.size]; rfl
    ·have := hr.lt
     show decide (X.top < t.i) = decide (Y.top < sh1 id t.i)
     rw [hr.top, decide_eq_decide]
     unfold sh1
     split <;> omega
    ·rw [Nat.zero_add]
     exact (IH i w hi _ (hkid i)).tr
   ·have hK : ∀ (ks : List Tm), (∀ w ∈ ks, (woF id val w).size ≤ w.size) → Tm.sizeL (woL id val ks) ≤ Tm.sizeL ks := by
     intro ks
     induction ks with
     | nil => intro _; exact Nat.le_refl _
     | cons u r ih =>
      intro h
      have h1 := h u (List.mem_cons_self ..)
      have h2 := ih fun w hw => h w (List.mem_cons_of_mem _ hw)
      simp only [woL, Tm.sizeL]; omega
    have h1 := Tm.size_ks t
    have h2 := Tm.size_ks (.mk t.k t.n t.m (if id < t.i then t.i - 1 else t.i) (woL id val t.ks))
    have h3 := hK t.ks fun w hw => by
     obtain ⟨i, hi⟩ := List.getElem?_of_mem hw
     exact (IH i w hi _ (hkid i)).size
    simp only [Tm.ks_mk] at h2
    omega
   ·refine .mk hf.1 hf.2.1 hf.2.2.1 ?_ (by rw [hl]; exact hn.ok.len) fun w hw => ?_
    ·split <;> omega
    ·obtain ⟨u, hu, rfl⟩ := qoU _ _ _ _ hw
     obtain ⟨i, hi⟩ := List.getElem?_of_mem hu
     exact (IH i u hi _ (hkid i)).ok
theorem qgO {x : Sc} {t r : Tm} {ok : Nm → Bool} (hk : ∀ y, ok y = true → y.h = false) (ht : x.top ≤ Int.ofNat x.ids.length) (h : Nd x t) (e : clR x ok (ini t) t = some r) : Good x t r := by
 by_cases hk10 : t.k = 10
 ·have hsz := h.gd.sz (by omega) (by omega)
  have hok := h.ok
  have hf := qbY hok
  have hnu := fun u hu => h.kid (u := u) (j := 0) hu
  cases hs : h.sh with
  | new n m u =>
   have e : (if ok (qfx (cid x) u) then some (woF (cid x) (ini (.new n m u)) u) else none) = some r := e
   split at e
   ·rename_i hu
    simp only [Option.some.injEq] at e
    subst e
    have hs2 := hsz
    rw [qeS, Bool.and_eq_true, Bool.and_eq_true, isSize_iff, isBelow_iff] at hs2
    have hv : ∀ Y, szF Y (ini (.new n m u)) = (n, true) := fun Y => by
     show szF Y (.num m n) = _
     rw [qdA, isSize_iff.2 hs2.2.1, isBelow_iff.2 hs2.2.2]; rfl
    have hR : Rm n (cid x) (x.with ⟨⟨[], ⟨true, n⟩⟩, false⟩) x := ⟨⟨x.ids, [], rfl, (List.append_nil _).symm, rfl⟩, rfl, rfl, by show x.top < Int.ofNat x.ids.length + 1; omega⟩
    obtain ⟨h1, h2, h3⟩ := qtS hv rfl (qhK (show 0 ≤ m ∧ m ≤ 64 by omega) (show 0 ≤ n ∧ n ≤ 64 by omega)) u.size u _ x 0 (Nat.le_refl _) hR (hnu u rfl) (hk _ hu)
    refine ⟨?_, hsz, by simp only [Tm.size, Tm.sizeL]; omega, h3⟩
    rw [qeS, ← h1.1, hs2.1, isSize_iff.2 hs2.2.1, isBelow_iff.2 hs2.2.2]
    exact Prod.ext rfl hs2.1.symm
   ·cases e
  | _ => simp only [Tm.k_mk] at hk10; omega
 ·unfold clR at e; rw [if_neg hk10] at e; cases e
theorem keep {x : Sc} {t r : Tm} {i : Nat} (h : Nd x t) (ht : x.top ≤ Int.ofNat x.ids.length) (hi : i < 22) (e : qbH i x t = some r) : Good x t r := by
 match i, hi with
 | 0, _ => exact qsd h e
 | 1, _ => exact qse h e
 | 2, _ => exact qoL h e
 | 3, _ => exact qka h e
 | 4, _ => exact qoM h e
 | 5, _ => exact qsf h e
 | 6, _ => exact qoN h e
 | 7, _ => exact qqf h e
 | 8, _ => exact qoO h e
 | 9, _ => exact qoP h e
 | 10, _ => exact qoS h e
 | 11, _ => exact qoQ h e
 | 12, _ => exact qmR h e
 | 13, _ => exact qgO (fun y hy => by simp only [okU, Bool.and_eq_true, Bool.not_eq_true'] at hy; exact hy.2.2) ht h e
 | 14, _ => exact qgO (fun y hy => by simp only [qr3, Bool.and_eq_true, Bool.not_eq_true'] at hy; exact hy.2.2) ht h e
 | 15, _ => exact qgO (fun y hy => by simp only [qr4, Bool.and_eq_true, Bool.not_eq_true'] at hy; exact hy.2.2) ht h e
 | 16, _ => exact qmT h e
 | 17, _ => exact qmU h e
 | 18, _ => exact qoR h e
 | 19, _ => exact qk9 h e
 | 20, _ => exact qk8 h e
 | 21, _ => exact qmS h e
 | _ + 22, h => exact absurd h (by omega)
end Go.AI.Tryz
namespace Go.AI
def qez (u : Tm) (a : Int) (t : Tm) : Tm := if 0 ≤ a ∧ a < t.size then Tm.put1 u a.toNat t else t
mutual
theorem qkb (u : Tm) : ∀ (t : Tm) (j : Nat), (Tm.put1 u j t).size ≤ t.size + u.size
 | t, 0 => by cases t; rw [Tm.put1]; omega
 | .mk k n m i ks, j + 1 => by
  have := qkc u ks j
  simp only [Tm.put1, Tm.size]; omega
theorem qkc (u : Tm) : ∀ (ks : List Tm) (j : Nat), Tm.sizeL (Tm.putL u j ks) ≤ Tm.sizeL ks + u.size
 | [], j => by cases j <;> simp only [Tm.putL] <;> omega
 | k :: r, j => by
  have h1 := qkb u k j
  have h2 := qkc u r (j - k.size)
  simp only [Tm.putL]
  split <;> simp only [Tm.sizeL] <;> omega
end
theorem qoV (u : Tm) (a : Int) (t : Tm) : (qez u a t).size ≤ t.size + u.size := by
 unfold qez
 split
 ·exact qkb u t _
 ·omega
def qhL : Int × Int × Tm → Tm → Int → (Int × Int × Tm) × (Tm × Bool) := fun c t l => (((qdi c.2.1 c.2.2 c.1 t l).1, c.2), (qdi c.2.1 c.2.2 c.1 t l).2)
theorem qmc (a : Int) (u : Tm) : ∀ (d : Nat) (c : Int) (t : Tm) (l : Int), qcB qhL d (c, a, u) t l = (((qcB (qdi a u) d c t l).1, a, u), (qcB (qdi a u) d c t l).2)
 | 0, c, t, l => rfl
 | d + 1, c, t, l => by
  have hk : ∀ (lab : Bool) (ks : List Tm) (j : Nat) (c : Int), qe1 (qcB qhL d) lab l j (c, a, u) ks = (((qe1 (qcB (qdi a u) d) lab l j c ks).1, a, u), (qe1 (qcB (qdi a u) d) lab l j c ks).2) := by
   intro lab ks
   induction ks with
   | nil => intro j c; rfl
   | cons w r ih =>
    intro j c
    simp only [qe1, qmc a u d, ih]
  simp only [qcB, qhL, hk]
  split <;> rfl
theorem qmd (a : Int) (ha : a < 0) (u : Tm) : ∀ (d c : Nat) (t : Tm) (l : Int), t.size ≤ d → c + t.size ≤ 1000000000 → qcB (qdi a u) d (.ofNat c) t l = (.ofNat (c + t.size), t)
 | 0, c, t, l, h, _ => by have := Tm.size_pos t; omega
 | d + 1, c, t, l, h, hc => by
  have hk : ∀ (lab : Bool) (ks : List Tm) (j c : Nat), (∀ u ∈ ks, u.size ≤ d) → c + Tm.sizeL ks ≤ 1000000000 → qe1 (qcB (qdi a u) d) lab l j (.ofNat c) ks = (.ofNat (c + Tm.sizeL ks), ks) := by
   intro lab ks
   induction ks with
   | nil => intro j c _ _; rfl
   | cons w r ih =>
    intro j c hu hc
    simp only [Tm.sizeL] at hc
    have h1 := qmd a ha u d c w (if lab && decide (j = 0) then l + 1 else l) (hu w (List.mem_cons_self ..)) (by omega)
    have ih := ih (j + 1) (c + w.size) (fun v hv => hu v (List.mem_cons_of_mem _ hv)) (by omega)
    simp only [qe1, h1, ih, Tm.sizeL]
    rw [show c + w.size + Tm.sizeL r = c + (w.size + Tm.sizeL r) by omega]
  have hsz := Tm.size_ks t
  unfold qcB
  rw [ql5 (by omega), if_neg (show ¬ Int.ofNat c = a from fun h => by rw [← h] at ha; simp only [Int.ofNat_eq_natCast] at ha; omega)]
  simp only [if_true]
  rw [hk _ t.ks 0 (c + 1) (fun v hv => by have := Tm.sizeL_mem hv; omega) (by omega), Tm.with_ks, show c + 1 + Tm.sizeL t.ks = c + t.size by omega]
theorem qoW (a : Int) (u t : Tm) (hs : t.size ≤ 100000) : (qcB (qdi a u) t.size 0 t 0).2 = qez u a t := by
 unfold qez
 by_cases h0 : 0 ≤ a
 ·obtain ⟨b, rfl⟩ : ∃ b : Nat, a = Int.ofNat b := ⟨a.toNat, by simp only [Int.ofNat_eq_natCast]; omega⟩
  have hp := ql6 b u t.size 0 t 0 (Nat.le_refl _) (by omega)
  by_cases hb : b < t.size
  ·rw [PutR.inn (by omega)] at hp
   obtain ⟨c', e, _⟩ := hp
   have e : qcB (qdi (.ofNat b) u) t.size 0 t 0 = _ := e
   rw [e, if_pos (by simp only [Int.ofNat_eq_natCast]; omega)]
   rfl
  ·rw [PutR.out (by omega)] at hp
   have hp : qcB (qdi (.ofNat b) u) t.size 0 t 0 = _ := hp
   rw [hp, if_neg (by simp only [Int.ofNat_eq_natCast]; omega)]
 ·rw [if_neg (by omega)]
  have e : qcB (qdi a u) t.size 0 t 0 = _ := qmd a (by omega) u t.size 0 t 0 (Nat.le_refl _) (by omega)
  rw [e]
end Go.AI
namespace Go.AI.Tryz
def RP2 (q : Nat × qaJ) (c : Int × Int × Tm) (E : qaJ) (s : ASt) : Prop := RP c.2.1 c.2.2 q c.1 E s
theorem qtT (d : Nat) : Ev fun n => ∀ q, ByC (RP2 q) qhL (.func 115 [] [.ptr (q.1 + 2) 0, .ptr q.1 0, .ptr (q.1 + 1) 0]) (fun _ => True) n d := by
 refine Ev.succ ((Ev.ge 1).mono fun n hn q c E s t l h1 h2 h3 h4 hr => ?_)
 obtain ⟨c, a, u⟩ := c
 obtain ⟨N, H0⟩ := q
 unfold RP2 RP at hr
 simp only at hr
 rw [qg8 CP (by omega), qbK]
 simp only [List.nil_append, List.cons_append]
 let s2 : ASt := { s with heap := (N + 2, .cells [i64 (qa7 .i64 (c + 1))]) :: (N + 1, .cells u.c) :: (N, .cells [i64 a]) :: H0 }
 refine ⟨s2, ?_, rfl, TF.refl s⟩
 refine qfb (cf := cf115) (np := 5) (args' := [t.v, i64 l, .ptr (N + 2) 0, .ptr N 0, .ptr (N + 1) 0]) (by kernel_rfl) (by kernel_rfl) rfl (by simp only [List.all_cons, qam]; rfl) (by simp only [List.map_cons, qao]; rfl) ((s115_eq _ _ _ _ _ _ _ _).trans (?_ : _ = some (.tuple [(qdi a u c t l).2.1.v, bl (qdi a u c t l).2.2], s2))) (qcZ _ _) (by rw [Tm.v_eq]; rfl)
 have hst : stH s (.ptr (N + 2) 0) [i64 (qa7 .i64 (c + 1))] = some s2 := quu hr rfl rfl
 have c1 : qak (qae CP n E).E s (N + 2) = some [i64 c] := qaV hr
 have c2 : qak (qae CP n E).E s2 (N + 2) = some [i64 (qa7 .i64 (c + 1))] := qaV rfl
 have c3 : qak (qae CP n E).E s2 (N + 1) = some u.c := by rw [qbc (s := s2) rfl (by omega)]; exact qaV rfl
 have c4 : qak (qae CP n E).E s2 N = some [i64 a] := by rw [qbc (s := s2) rfl (by omega), qbc rfl (by omega)]; exact qaV rfl
 unfold s115 qdi
 by_cases ha : qa7 .i64 (qa7 .i64 (c + 1) - 1) = a
 ·simp only [ldP c1, ldP c2, ldP c3, ldP c4, qcm, qbd, hst, ha, if_true, qal, qaZ, qaC, qag, qaq, qaG, qbC, decide_true, qaa, cond_true, Option.map_some, Option.bind_some]
 ·simp only [ldP c1, ldP c2, ldP c3, ldP c4, qcm, qbd, hst, ha, if_false, qal, qaZ, qaC, qag, qaq, qaG, qbC, decide_false, qaa, cond_false, Option.map_some, Option.bind_some]
theorem qqg (D : Nat) (hD : D ≤ 900000) : UC 60 (fun t : Tm => [t.v]) (fun t _ _ => t.size ≤ D) (fun t => t.v) := by
 refine UC.of (cf := cf60) (np := 1) (by kernel_rfl) (by kernel_rfl) (fun _ => rfl) (fun _ => by simp only [List.all_cons, qam]; rfl) (fun _ => by simp only [List.map_cons, qao]; rfl) (fun _ => Stab.pure _) (fun t lo => qaT lo _)
  ((qdw (R := fun _ _ _ _ => True) (fv := fun _ => _) (fun _ _ _ _ _ _ _ _ => trivial) (fun _ => rfl) (fun _ => rfl) (fun _ t _ _ _ => ⟨Nat.le_refl _, fun _ _ => trivial⟩) D (qot (g := fun t _ => (t, true)) (Ad := fun _ => True) (d := D) qj3)).mono fun n h t E s hs => ?_)
 obtain ⟨s', h', _, _⟩ := h () () E s t 0 hs trivial (by omega) (by omega) trivial
 have e := qfU (σ := Unit) (fun t _ => t) (fun _ _ => ⟨rfl, rfl⟩) D () t 0 hs
 rw [show (fun (x : Unit) (t : Tm) (l : Int) => (x, (fun (t : Tm) (_ : Int) => (t, true)) t l)) = fun x t l => (x, (fun (t : Tm) (_ : Int) => t) t l, true) from rfl, e, qor t.size t 0 (Nat.le_refl _)] at h'
 refine ⟨t.v, s', (s60_eq _ _ _ _).trans ?_, qao _⟩
 unfold s60
 simp only [h', qal, qaZ, qaC, Option.bind_some, qab]
theorem qvh (t : Tm) (hs : t.size ≤ 100000) : UC 66 (fun p : Int × Tm => [t.v, i64 p.1, p.2.v]) (fun p _ _ => p.2.size ≤ 100000) (fun p => (qez p.2 p.1 t).v) := by
 refine UC.of (cf := cf66) (np := 3) (by kernel_rfl) (by kernel_rfl) (fun _ => rfl) (fun _ => by simp only [List.all_cons, qam]; rfl) (fun _ => by simp only [List.map_cons, qao]; rfl) (fun _ => Stab.pure _) (fun t lo => qaT lo _)
  (((qdw (κ := Nat × qaJ) (R := RP2) (by_ := qhL) (Ad := fun _ => True) (fv := fun q => .func 115 [] [.ptr (q.1 + 2) 0, .ptr q.1 0, .ptr (q.1 + 1) 0]) (fun q x E s s' r e1 e2 => by unfold RP2 RP at r ⊢; rw [e1]; exact r) (fun _ => rfl) (fun _ => rfl) (fun c t l _ hgo => by
   unfold qhL qdi at hgo ⊢
   split
   ·rename_i h; simp only [h, if_true] at hgo; cases hgo
   ·exact ⟨Nat.le_refl _, fun _ _ => trivial⟩) t.size (qtT t.size)).and (qqg 200000 (by omega))).mono fun n ⟨h, hcp⟩ p E s hp => ?_)
 obtain ⟨a, u⟩ := p
 simp only at hp ⊢
 let s14 := qaf (qaf (qaf s (.cells [i64 a])) (.cells u.c)) (.cells [i64 0])
 obtain ⟨s', e1, e2, _⟩ := h (s.next, s.heap) (0, a, u) E s14 t 0 (Nat.le_refl _) trivial (by omega) (by omega) rfl
 rw [qmc] at e1
 simp only [qoW a u t hs] at e1
 have hcp' := hcp (qez u a t) E s' (by have := qoV u a t; omega)
 have hst : stH (qaf (qaf (qaf s (.cells [i64 a])) (.cells u.c)) (.cells [i64 0])) (.ptr (qaf (qaf s (.cells [i64 a])) (.cells u.c)).next 0) [i64 0] = some s14 := qg9 _ _ _ _ _ rfl rfl
 have haw : [i64 a].all qaK = true := rfl
 have e1' : cl (qae CP n E) 108 [t.v, i64 0, .func 115 [] [.ptr (qaf (qaf s (.cells [i64 a])) (.cells u.c)).next 0, .ptr s.next 0, .ptr (qaf s (.cells [i64 a])).next 0]] s14 = some ((qez u a t).v, s') := e1
 refine ⟨(qez u a t).v, s', (s66_eq _ _ _ _ _ _).trans ?_, qao _⟩
 unfold s66
 simp only [haw, qbd, hst, e1', hcp', qal, qaZ, qaC, qtq, Option.bind_some, qab, qaS, qba, cnd]
end Go.AI.Tryz
namespace Go.AI.Tryz
abbrev rv (w : Rw) : AVal := .agg [u8 w.1, i64 w.2]
theorem qq0 (ng : Bool) (v w : Rw) : eqs [1, 1] ng (rv v) (rv w) = some (bl (cond ng (!(decide (v.1 = w.1) && decide (v.2 = w.2))) (decide (v.1 = w.1) && decide (v.2 = w.2)))) := by
 have h1 : ∀ k a b, qq2 (.int k a) (.int k b) = some (decide (a = b)) := fun k a b => by
  show cond (keq k k) (some (ieq a b)) none = _
  rw [qb5]; cases k <;> rfl
 have h2 : ∀ k a b, eqK 1 (.p (.int k a)) (.p (.int k b)) = some (decide (a = b)) := fun k a b => by rw [← h1 k a b]; rfl
 unfold eqs pu
 simp only [qaw, qq1, Arg.ev, qmi, h2, Option.bind_some]
 cases decide (v.1 = w.1) <;> cases decide (v.2 = w.2) <;> cases ng <;> rfl
abbrev ZC : List AVal := [u8 0, i64 0, i64 0, i64 0, .sl 0 [] .full]
end Go.AI.Tryz
namespace Go.AI.Tryz
theorem qoX {a : Ar} {t : Tm} (hc : qbG a t = 0) (ok : t.Ok) (h1 : a.ids.length ≤ 100000) (hs : t.size ≤ 100000) (hg : ∀ p ∈ qbl t (qaH a), p.1.top ≤ Int.ofNat p.1.ids.length) : ∀ p ∈ qbl t (qaH a), ∀ i, i < 22 → ∀ u, qbH i p.1 p.2 = some u → u.size ≤ 100000 := by
 intro p hp i hi u hu
 obtain ⟨hn, hsz⟩ := qeV _ t (qaH a) (Nat.le_refl _) (qiI hc ok h1 hs) p hp
 have := (keep hn (hg p hp) hi hu).le
 omega
mutual
theorem qkd : ∀ (t : Tm) (x : Sc), x.top ≤ Int.ofNat x.ids.length → ∀ p ∈ qbl t x, p.1.top ≤ Int.ofNat p.1.ids.length
 | .mk k n m i ks, x, hx => by
  intro p hp
  rw [qbl] at hp
  rcases List.mem_cons.1 hp with rfl | hp
  ·exact hx
  ·refine qhM ks _ 0 (fun j => ?_) p hp
   unfold Sc.kid
   split
   ·simp only [Sc.with, List.length_append, List.length_cons, List.length_nil, Int.ofNat_eq_natCast] at hx ⊢; omega
   ·split
    ·simp only [Sc.with, List.length_append, List.length_cons, List.length_nil, Int.ofNat_eq_natCast] at hx ⊢; omega
    ·split
     ·exact hx
     ·exact hx
theorem qhM : ∀ (ks : List Tm) (sc : Nat → Sc) (j : Nat), (∀ j, (sc j).top ≤ Int.ofNat (sc j).ids.length) → ∀ p ∈ qbA sc j ks, p.1.top ≤ Int.ofNat p.1.ids.length
 | [], _, _, _ => by intro p hp; simp only [qbA] at hp; cases hp
 | u :: r, sc, j, hx => by
  intro p hp
  simp only [qbA, List.mem_append] at hp
  rcases hp with hp | hp
  ·exact qkd u _ (hx j) p hp
  ·exact qhM r sc (j + 1) hx p hp
end
theorem qnC (a : Ar) (t : Tm) : ∀ p ∈ qbl t (qaH a), p.1.top ≤ Int.ofNat p.1.ids.length := qkd t _ (by simp only [qaH, List.length_map]; exact Int.le_refl _)
end Go.AI.Tryz
namespace Go.AI.Tryz
theorem zbd : bd [u8 0, i64 0, i64 0, i64 0, .sl 0 [] .full] [] = some (.agg [u8 0, i64 0, i64 0, i64 0, .sl 0 [] .full]) := rfl
theorem qoY : AVal.cells (some 5) (.agg [u8 0, i64 0, i64 0, i64 0, .sl 0 [] .full]) = some [u8 0, i64 0, i64 0, i64 0, .sl 0 [] .full] := rfl
theorem qvx : ldL [u8 0, i64 0, i64 0, i64 0, .sl 0 [] .full] 0 (some 5) = some (.agg [u8 0, i64 0, i64 0, i64 0, .sl 0 [] .full]) := rfl
theorem qtU : over [u8 0, i64 0, i64 0, i64 0, .sl 0 [] .full] 0 [u8 0, i64 0, i64 0, i64 0, .sl 0 [] .full] = some [u8 0, i64 0, i64 0, i64 0, .sl 0 [] .full] := rfl
theorem qee (a : Ar) : AVal.cells (some 4) a.v = some [.p (.sl a.ids.length (qaY Ty.cells a.ids)), bl a.root.cell, i64 a.root.n, bl a.jumps] := rfl
theorem qoZ (a : Ar) : ldL [.p (.sl a.ids.length (qaY Ty.cells a.ids)), bl a.root.cell, i64 a.root.n, bl a.jumps] 0 (some 4) = some a.v := rfl
end Go.AI.Tryz
namespace Go.AI.Tryz
abbrev Y41 := Option (Option Of)
def qiN (log : List Rw) (_ : Y41) (o : Of) : Y41 × Bool := if log.length = 2000 then (some none, false) else (some (some o), false)
def x41 : Y41 → EX
 | none => .normal
 | some none => .ret
 | some (some _) => .exit 2
def t41 (t : Tm) : Y41 → Tm
 | some (some o) => qez o.2.2 o.2.1 t
 | _ => t
def qeZ (log : List Rw) : Y41 → List Rw
 | some (some o) => log ++ [(o.1, o.2.1)]
 | _ => log
def e41 : Y41 → Int
 | some none => 5
 | _ => 0
def m41 : Y41 → Bool
 | some (some _) => true
 | _ => false
structure K41 (ι : Type) where
 p : ι
 fr : Tr AVal
 lo : Tr (Nat × List AVal)
 M : Nat
 lf : Nat
 P : qaJ
 s0 : ASt
def B41 (s0 : ASt) (t : Tm) (e : Int) (lg : AVal) : qaJ := (s0.next + 4, .cells [lg]) :: (s0.next + 3, .cells [i64 e]) :: (s0.next + 2, .cells [.sl 0 [] .full]) :: (s0.next + 1, .cells ZC) :: (s0.next, .cells t.c) :: s0.heap
section
variable {ι : Type} (fv : ι → AVal) (C : ι → qaJ → ASt → Prop) (sm : Int → Bool)
def U41 (x : Vw) (t : Tm) (log : List Rw) (q : K41 ι) (y : Y41) (E H : qaJ) (tk : Nat × List (Nat × Nat × Nat)) : Prop :=
 (q.fr.get qah 4 = .ptr q.s0.next 0 ∧ q.fr.get qah 6 = .ptr (q.s0.next + 1) 0 ∧ q.fr.get qah 7 = .ptr (q.s0.next + 2) 0 ∧ q.fr.get qah 8 = .ptr (q.s0.next + 3) 0 ∧ q.fr.get qah 9 = .ptr (q.s0.next + 4) 0 ∧ q.fr.get qah 10 = .ptr q.lf 0 ∧ (∀ t, t < 63 → q.fr.has t = true) ∧ (∀ i, q.lo.get (0, []) i = (0, [])) ∧ q.lo.has 1 = true ∧ q.lo.has 2 = true) ∧
 (C q.p E q.s0 ∧ (∀ v ∈ q.P, q.s0.next + 5 ≤ v.1) ∧ q.s0.next + 5 ≤ q.lf ∧ q.lf < q.M) ∧
 ∃ tok, H = (q.M + 2, .loop (qm6 (x41 y)) (qd5 (x41 y)) q.fr q.lo [21, 22] ra41 rb41) :: (q.M + 1, .cells [fv q.p]) :: (q.M, .cells x.c) :: (q.lf, .cells [bl (m41 y)]) :: (q.P ++ B41 q.s0 (t41 t y) (e41 y) (qbu tok (qeZ log y))) ∧ qj9 tk tok (qeZ log y)
theorem qsg (x : Vw) (t : Tm) (log : List Rw) (hs : t.size ≤ 100000) (hll : log.length ≤ 2000) : Ev fun n => YC (fun q : K41 ι => q.M + 3) (fun q => .yield (q.M + 2)) (U41 fv C x t log) (qiN log) (fun u => u.size ≤ 100000) (fun _ y => y = none) n := by
 refine Ev.succ (((qvh t hs).and (Ev.ge 1)).mono fun n ⟨hput, hn⟩ q y E H pre s o m hos hh hpre hN hU hlv => ?_)
 subst hlv
 obtain ⟨p, fr, lo, M, lf, P, s0⟩ := q
 obtain ⟨⟨f4, f6, f7, f8, f9, f10, fh, l0, l1h, l2h⟩, ⟨hC, hPi, hlf, hlm⟩, tok, hH, hok⟩ := hU
 simp only at f4 f6 f7 f8 f9 f10 fh l0 l1h l2h hC hPi hlf hlm hH hpre hN
 subst hH
 obtain ⟨k, at_, u⟩ := o
 simp only at hos
 have hpl : ∀ v ∈ pre, v.1 ≠ M + 2 := fun v hv => by have := hpre v hv; omega
 let N := s0.next
 let LP : HObj := .loop 1 none fr lo [21, 22] ra41 rb41
 let Q : qaJ := pre ++ [(M + 2, LP), (M + 1, .cells [fv p]), (M, .cells x.c)]
 let q : K41 ι := ⟨p, fr, lo, M, lf, P, s0⟩
 let hp : Bool → Tm → Int → AVal → qaJ := fun b t e lg => Q ++ (lf, .cells [bl b]) :: (P ++ B41 s0 t e lg)
 let uf : ASt → ASt := fun s => { s with heap := pre ++ (M + 2, LP) :: (M + 1, .cells [fv p]) :: (M, .cells x.c) :: (lf, .cells [bl false]) :: (P ++ B41 s0 t 0 (qbu tok log)) }
 have hQ : ∀ v ∈ Q, lf < v.1 := by
  intro v hv
  simp only [Q, List.mem_append, List.mem_cons, List.not_mem_nil, or_false] at hv
  rcases hv with hv | rfl | rfl | rfl
  ·have := hpre v hv; omega
  ·simp only; omega
  ·simp only; omega
  ·simp only; omega
 have hQP : ∀ b, ∀ v ∈ Q ++ (lf, HObj.cells [bl b]) :: P, N + 5 ≤ v.1 := by
  intro b v hv
  simp only [List.mem_append, List.mem_cons] at hv
  rcases hv with hv | rfl | hv
  ·have := hQ v hv; show s0.next + 5 ≤ v.1; omega
  ·exact hlf
  ·exact hPi v hv
 have hu0 : (uf s).heap = hp false t 0 (qbu tok log) := by simp only [uf, hp, Q, List.append_assoc, List.cons_append, List.nil_append]
 have i4 : ∀ b t e lg, hp b t e lg = (Q ++ (lf, .cells [bl b]) :: P) ++ (N + 4, .cells [lg]) :: (N + 3, .cells [i64 e]) :: (N + 2, .cells [.sl 0 [] .full]) :: (N + 1, .cells ZC) :: (N, .cells t.c) :: s0.heap := fun b t e lg => by simp only [hp, B41, N, List.append_assoc, List.cons_append]
 have i3 : ∀ b t e lg, hp b t e lg = ((Q ++ (lf, .cells [bl b]) :: P) ++ [(N + 4, .cells [lg])]) ++ (N + 3, .cells [i64 e]) :: (N + 2, .cells [.sl 0 [] .full]) :: (N + 1, .cells ZC) :: (N, .cells t.c) :: s0.heap := fun b t e lg => by rw [i4]; simp only [List.append_assoc, List.cons_append, List.nil_append]
 have i2 : ∀ b t e lg, hp b t e lg = ((Q ++ (lf, .cells [bl b]) :: P) ++ [(N + 4, .cells [lg]), (N + 3, .cells [i64 e])]) ++ (N + 2, .cells [.sl 0 [] .full]) :: (N + 1, .cells ZC) :: (N, .cells t.c) :: s0.heap := fun b t e lg => by rw [i4]; simp only [List.append_assoc, List.cons_append, List.nil_append]
 have i1 : ∀ b t e lg, hp b t e lg = ((Q ++ (lf, .cells [bl b]) :: P) ++ [(N + 4, .cells [lg]), (N + 3, .cells [i64 e]), (N + 2, .cells [.sl 0 [] .full])]) ++ (N + 1, .cells ZC) :: (N, .cells t.c) :: s0.heap := fun b t e lg => by rw [i4]; simp only [List.append_assoc, List.cons_append, List.nil_append]
 have i0 : ∀ b t e lg, hp b t e lg = ((Q ++ (lf, .cells [bl b]) :: P) ++ [(N + 4, .cells [lg]), (N + 3, .cells [i64 e]), (N + 2, .cells [.sl 0 [] .full]), (N + 1, .cells ZC)]) ++ (N, .cells t.c) :: s0.heap := fun b t e lg => by rw [i4]; simp only [List.append_assoc, List.cons_append, List.nil_append]
 have hne : ∀ b (T : qaJ) (l : Nat), l < N + 5 → (∀ v ∈ T, l < v.1) → ∀ v ∈ (Q ++ (lf, .cells [bl b]) :: P) ++ T, v.1 ≠ l := by
  intro b T l hl hT v hv
  rw [List.mem_append] at hv
  rcases hv with hv | hv
  ·have := hQP b v hv; omega
  ·have := hT v hv; omega
 have n4 : ∀ b, ∀ v ∈ Q ++ (lf, HObj.cells [bl b]) :: P, v.1 ≠ N + 4 := fun b v hv => by have := hQP b v hv; omega
 have n3 : ∀ b lg, ∀ v ∈ (Q ++ (lf, .cells [bl b]) :: P) ++ [(N + 4, HObj.cells [lg])], v.1 ≠ N + 3 := fun b lg => hne b _ _ (by omega) (by intro v hv; simp only [List.mem_cons, List.not_mem_nil, or_false] at hv; subst hv; simp only; omega)
 have n2 : ∀ b lg e, ∀ v ∈ (Q ++ (lf, .cells [bl b]) :: P) ++ [(N + 4, HObj.cells [lg]), (N + 3, .cells [i64 e])], v.1 ≠ N + 2 := fun b lg e => hne b _ _ (by omega) (by intro v hv; simp only [List.mem_cons, List.not_mem_nil, or_false] at hv; rcases hv with rfl | rfl <;> simp only <;> omega)
 have n1 : ∀ b lg e, ∀ v ∈ (Q ++ (lf, .cells [bl b]) :: P) ++ [(N + 4, HObj.cells [lg]), (N + 3, .cells [i64 e]), (N + 2, .cells [.sl 0 [] .full])], v.1 ≠ N + 1 := fun b lg e => hne b _ _ (by omega) (by intro v hv; simp only [List.mem_cons, List.not_mem_nil, or_false] at hv; rcases hv with rfl | rfl | rfl <;> simp only <;> omega)
 have n0 : ∀ b lg e, ∀ v ∈ (Q ++ (lf, .cells [bl b]) :: P) ++ [(N + 4, HObj.cells [lg]), (N + 3, .cells [i64 e]), (N + 2, .cells [.sl 0 [] .full]), (N + 1, .cells ZC)], v.1 ≠ N := fun b lg e => hne b _ _ (by omega) (by intro v hv; simp only [List.mem_cons, List.not_mem_nil, or_false] at hv; rcases hv with rfl | rfl | rfl | rfl <;> simp only <;> omega)
 have c4 : ∀ (s' : ASt) b t e lg, s'.heap = hp b t e lg → qak (qae CP n E).E s' (N + 4) = some [lg] := fun s' b t e lg h => qbE (h.trans (i4 ..)) (n4 b)
 have c0 : ∀ (s' : ASt) b t e lg, s'.heap = hp b t e lg → qak (qae CP n E).E s' N = some t.c := fun s' b t e lg h => qbE (h.trans (i0 ..)) (n0 b lg e)
 have e1 : AVal.cells (some 2) (rwV (k, at_, u)) = some [u8 k, i64 at_] := rfl
 have l2 : ldL [u8 k, i64 at_] 0 (some 2) = some (rv (k, at_)) := rfl
 have l1 : ldL [u8 k, i64 at_] 1 none = some (i64 at_) := rfl
 have one : ∀ v : AVal, ldL [v] 0 none = some v := fun _ => rfl
 have hx : ∃ s2 tok', qrv 63 3 (qae CP n E) n ra41 rb41 uf ((21, rwV (k, at_, u)) :: (22, u.v) :: [(4, .ptr N 0), (6, .ptr (N + 1) 0), (7, .ptr (N + 2) 0), (8, .ptr (N + 3) 0), (9, .ptr (N + 4) 0), (10, .ptr lf 0)]) [(1, (0, [])), (2, (0, []))] s = some (qjS (x41 (qiN log none (k, at_, u)).1), s2) ∧
   s2.heap = hp (m41 (qiN log none (k, at_, u)).1) (t41 t (qiN log none (k, at_, u)).1) (e41 (qiN log none (k, at_, u)).1) (qbu tok' (qeZ log (qiN log none (k, at_, u)).1)) ∧ s2.next = s.next ∧ qj9 (qk5 s2) tok' (qeZ log (qiN log none (k, at_, u)).1) := by
  by_cases hm : log.length = 2000
  ·have hst : qiN log none (k, at_, u) = (some none, false) := by unfold qiN; rw [if_pos hm]
   rw [hst]
   have w1 : stH (uf s) (.ptr (N + 1) 0) [u8 0, i64 0, i64 0, i64 0, .sl 0 [] .full] = some (uf s) := by
    have := qfE (o := 0) (cs := ZC) (new := ZC) (hu0.trans (i1 ..)) (n1 false (qbu tok log) 0) rfl rfl
    rw [← i1, ← hu0] at this
    exact this
   have w2 : stH (uf s) (.ptr (N + 2) 0) [.sl 0 [] .full] = some (uf s) := by
    have := qfE (o := 0) (cs := [.sl 0 [] .full]) (new := [.sl 0 [] .full]) (hu0.trans (i2 ..)) (n2 false (qbu tok log) 0) rfl rfl
    rw [← i2, ← hu0] at this
    exact this
   have w3 : stH (uf s) (.ptr (N + 3) 0) [i64 5] = some { uf s with heap := hp false t 5 (qbu tok log) } := by
    have := qfE (o := 0) (cs := [i64 5]) (new := [i64 5]) (hu0.trans (i3 ..)) (n3 false (qbu tok log)) rfl rfl
    rw [← i3] at this
    exact this
   have hfz : AVal.cells none (.sl 0 [] .full) = some [.sl 0 [] .full] := rfl
   refine ⟨{ uf s with heap := hp false t 5 (qbu tok log) }, tok, (y41_eq (qae CP n E) n uf N (N + 1) (N + 2) (N + 3) (N + 4) (.ptr lf 0) (rwV (k, at_, u)) u.v s).trans ?_, rfl, rfl, hok⟩
   have hln : i64 (.ofNat log.length) = i64 2000 := by rw [hm]; rfl
   unfold y41
   simp only [e1, qin, ldP (c4 (uf s) _ _ _ _ hu0), one, qqX, hln, zbd, qoY, w1, w2, w3, hfz, qbd, qal, qaC, qag, qaq, decide_true, qaa, cond_true, Option.map_some, Option.bind_some, cnd]
   rfl
  ·have hst : qiN log none (k, at_, u) = (some (some (k, at_, u)), false) := by unfold qiN; rw [if_neg hm]
   rw [hst]
   have hput' := hput (at_, u) E (uf s) hos
   simp only at hput'
   obtain ⟨tok', ts, nt', a1, a2⟩ := qoG (qae CP n E) (s := uf s) (y := log) (tok := tok) hok (k, at_) (by omega)
   let sA : ASt := { uf s with ntok := nt', toks := ts }
   have hA : sA.heap = hp false t 0 (qbu tok log) := hu0
   have w0 : stH sA (.ptr N 0) (qez u at_ t).c = some { sA with heap := hp false (qez u at_ t) 0 (qbu tok log) } := by
    have := qfE (o := 0) (cs := (qez u at_ t).c) (new := (qez u at_ t).c) (hA.trans (i0 ..)) (n0 false (qbu tok log) 0) rfl rfl
    rw [← i0] at this
    exact this
   let sB : ASt := { sA with heap := hp false (qez u at_ t) 0 (qbu tok log) }
   have w4 : stH sB (.ptr (N + 4) 0) [qbu tok' (log ++ [(k, at_)])] = some { sB with heap := hp false (qez u at_ t) 0 (qbu tok' (log ++ [(k, at_)])) } := by
    have := qfE (s := sB) (o := 0) (cs := [qbu tok' (log ++ [(k, at_)])]) (new := [qbu tok' (log ++ [(k, at_)])]) (i4 ..) (n4 false) (qfW _ _) rfl
    rw [← i4] at this
    exact this
   let sC : ASt := { sB with heap := hp false (qez u at_ t) 0 (qbu tok' (log ++ [(k, at_)])) }
   have w5 : stH sC (.ptr lf 0) [bl true] = some { sC with heap := hp true (qez u at_ t) 0 (qbu tok' (log ++ [(k, at_)])) } := by
    exact qfE (s := sC) (o := 0) (cs := [bl true]) (new := [bl true]) (zs := [bl false]) rfl (fun v hv => by have := hQ v hv; omega) rfl rfl
   have w0' : stH { next := (uf s).next, heap := (uf s).heap, ntok := nt', toks := ts } (.ptr N 0) (qez u at_ t).c = some sB := w0
   have w4' : stH sB (.ptr (N + 4) 0) [qbu tok' (log ++ [(k, at_)])] = some sC := w4
   have hms : ms 1 [.int .u8 0, .int .i64 0] [(0, some 2, .c (rv (k, at_)))] = some (.sl 1 (rwC (k, at_)) .full) := rfl
   have hpu : (qae CP n E).pure 66 = true := by
    have h66 : qcC CP 66 = true := by kernel_rfl
    have : ∀ m E, (qae CP m E).pure = qcC CP := fun m E => by cases m <;> rfl
    rw [this]; exact h66
   have hln : ¬ (Int.ofNat log.length = 2000) := fun h => hm (by simp only [Int.ofNat_eq_natCast] at h; omega)
   refine ⟨{ sC with heap := hp true (qez u at_ t) 0 (qbu tok' (log ++ [(k, at_)])) }, tok', (y41_eq (qae CP n E) n uf N (N + 1) (N + 2) (N + 3) (N + 4) (.ptr lf 0) (rwV (k, at_, u)) u.v s).trans ?_, rfl, rfl, a2⟩
   unfold y41
   simp only [e1, qin, l2, l1, ldP (c4 (uf s) _ _ _ _ hu0), ldP (c0 (uf s) _ _ _ _ hu0), one, qqX, hln, hput', hms, a1, qeX, w0', w4', w5, hpu, Bool.true_or, Bool.and_true, qby, qal, qaZ, qaC, qag, qaq, decide_false, qaa, cond_false, Option.map_some, Option.bind_some, qab, cnd]
   rfl
 obtain ⟨s2, tok', hrun, hs2, hs2n, hs2k⟩ := hx
 generalize hr : qiN log none (k, at_, u) = R at hrun hs2 hs2k
 have hgo : qiW (x41 R.1) = R.2 ∧ (R.2 = true → R.1 = none) := by
  subst hr
  unfold qiN
  split <;> exact ⟨rfl, by simp⟩
 have hs2' : s2.heap = pre ++ (M + 2, .loop 1 none fr lo [21, 22] ra41 rb41) :: ((M + 1, .cells [fv p]) :: (M, .cells x.c) :: (lf, .cells [bl (m41 R.1)]) :: (P ++ B41 s0 (t41 t R.1) (e41 R.1) (qbu tok' (qeZ log R.1)))) := by
  rw [hs2]; simp only [hp, Q, LP, List.append_assoc, List.cons_append, List.nil_append]
 have hy := qoF (n := n) (nt := 63) (nl := 3) (E := E) (ly := M + 2) (fr := fr) (lo := lo) (pre := pre) (F0 := [(4, .ptr N 0), (6, .ptr (N + 1) 0), (7, .ptr (N + 2) 0), (8, .ptr (N + 3) 0), (9, .ptr (N + 4) 0), (10, .ptr lf 0)]) (L := [(1, (0, [])), (2, (0, []))]) (v1 := rwV (k, at_, u)) (v2 := u.v) (x := x41 R.1) (by kernel_rfl) (by kernel_rfl) (by omega) (by omega) (by omega) hh hpl
  (fun t u hu => by
   simp only [qaj] at hu
   split at hu
   ·rename_i e; subst e; rw [f4]; simpa using hu
   ·split at hu
    ·rename_i e; subst e; rw [f6]; simpa using hu
    ·split at hu
     ·rename_i e; subst e; rw [f7]; simpa using hu
     ·split at hu
      ·rename_i e; subst e; rw [f8]; simpa using hu
      ·split at hu
       ·rename_i e; subst e; rw [f9]; simpa using hu
       ·split at hu
        ·rename_i e; subst e; rw [f10]; simpa using hu
        ·cases hu) fh
  (fun i p hi => by
   simp only [qaj] at hi
   split at hi
   ·rename_i e; subst e
    simp only [Option.some.injEq] at hi
    subst hi
    exact ⟨l0 _, l1h⟩
   ·split at hi
    ·rename_i e; subst e
     simp only [Option.some.injEq] at hi
     subst hi
     exact ⟨l0 _, l2h⟩
    ·cases hi) (by simp only [List.all_cons, qam]; rfl) hrun hs2'
 rw [hgo.1] at hy
 exact ⟨_, _, hy, rfl, hs2n, ⟨⟨f4, f6, f7, f8, f9, f10, fh, l0, l1h, l2h⟩, ⟨hC, hPi, hlf, hlm⟩, tok', rfl, hs2k⟩, hgo.2⟩
end
end Go.AI.Tryz
namespace Go.AI.Tryz
noncomputable def F41 (e : Env) (n : Nat) (c4 : List AVal) (l6 : Nat) (x2 : AVal) (l8 : Nat) (l10 : Nat) (l12 : Nat) (l14 : Nat) : (AVal → Nat → Nat → List AVal → List AVal → ASt → Res) → AVal → Nat → Nat → List AVal → List AVal → ASt → Res := (fun h31 x25 g26 g27 c28 c29 s30 =>
 (ldH e s30 x25 none).bind fun x32 =>
 qad x32 ((AVal.cells none (bl false)).bind fun c33 =>
 (stH s30 x25 c33).bind fun s34 =>
 (ldL c4 0 (some 4)).bind fun x35 =>
 (ldH e s34 (.ptr l6 0) (some 5)).bind fun x36 =>
 qac (cl e 65 [x35, x36] s34) fun x37 s38 =>
 qac (cl e 54 [x37, x2] s38) fun x39 s40 =>
 jn (s41_0 e n x25 h31) fun j51 =>
 rfK e n 63 x39 [21, 22] ra41 rb41 [(20, x39), (19, x2), (18, x37), (17, x36), (16, x35), (15, x32), (10, x25), (2, x2), (3, (.lptr 0 1 0)), (4, (.ptr l6 0)), (6, (.ptr l8 0)), (7, (.ptr l10 0)), (8, (.ptr l12 0)), (9, (.ptr l14 0))] [(1, (g26, c28)), (2, (g27, c29)), (0, (1, c4)), (0, (0, []))] s40 (fun s52 => j51 g26 g27 c28 c29 s52) (fun s53 => j51 g26 g27 c28 c29 s53) (fun s54 => (ldH e s54 (.ptr l8 0) (some 5)).bind fun x55 =>
 (ldH e s54 (.ptr l10 0) none).bind fun x56 =>
 (ldH e s54 (.ptr l12 0) none).bind fun x57 =>
 some (.tuple [x55, x56, x57], s54)))
 ((ldH e s30 (.ptr l6 0) (some 5)).bind fun x91 =>
 (ldH e s30 (.ptr l14 0) none).bind fun x92 =>
 (AVal.cells (some 5) x91).bind fun c93 =>
 (stH s30 (.ptr l8 0) c93).bind fun s94 =>
 (AVal.cells none x92).bind fun c95 =>
 (stH s94 (.ptr l10 0) c95).bind fun s96 =>
 (AVal.cells none (i64 0)).bind fun c97 =>
 (stH s96 (.ptr l12 0) c97).bind fun s98 =>
 cnd ((qaU (loadFrom e.E .nil s30 (.ptr l14 0) 1) (loadFrom e.E .nil s94 (.ptr l14 0) 1) && true) && true) ((ldH e s98 (.ptr l8 0) (some 5)).bind fun x99 =>
 (ldH e s98 (.ptr l10 0) none).bind fun x100 =>
 (ldH e s98 (.ptr l12 0) none).bind fun x101 =>
 some (.tuple [x99, x100, x101], s98)) none))
theorem lp41 (e : Env) (n : Nat) (c4 : List AVal) (l6 : Nat) (x2 : AVal) (l8 l10 l12 l14 : Nat) : s41_1 e n c4 l6 x2 l8 l10 l12 l14 = lp (fun _ _ _ _ _ _ => none) (F41 e n c4 l6 x2 l8 l10 l12 l14) n := rfl
def qfX (a : Ar) (sm : Int → Bool) : Nat → Tm → List Rw → Tm × List Rw × Int
 | 0, _, _ => (.z, [], 5)
 | m + 1, t, log => match qeW sm 0 (qbl t (qaH a)) with
  | [] => (t, log, 0)
  | o :: _ => if log.length = 2000 then (.z, [], 5) else qfX a sm m (qez o.2.2 o.2.1 t) (log ++ [(o.1, o.2.1)])
abbrev qiO (r : Tm × List Rw × Int) : AVal := .tuple [r.1.v, qiJ r.2.1, i64 r.2.2]
theorem qo0 (r : Tm × List Rw × Int) : qaA (qiO r) = qiO r := by rw [qiO, Tm.v_eq]; rfl
theorem qke (lo : Nat) (r : Tm × List Rw × Int) : qeg lo (qiO r) = true := by rw [qiO, Tm.v_eq]; rfl
theorem qtV (t : Tm) (tok : Nat) (log : List Rw) (e : Int) : qaA (.tuple [t.v, qbu tok log, i64 e]) = qiO (t, log, e) := by
 rw [qiO, Tm.v_eq]
 show AVal.tuple [_, qcf (qbu tok log), _] = _
 have : qcf (qbu tok log) = qbM (qbu tok log) := by cases log <;> rfl
 rw [this, qqW]
 rfl
theorem qqh (tok : Nat) (log : List Rw) : qaU (some [qbu tok log]) (some [qbu tok log]) = true := by
 cases log with
 | nil => rfl
 | cons a r => simp only [qaU, qbu, qdl, qm5, qck, qm4, Nat.beq_refl, Bool.and_self]
theorem qfY {sm : Int → Bool} : ∀ {l : List (Sc × Tm)} {b : Int} {o : Of}, o ∈ qeW sm b l → ∃ j p i, l[j]? = some p ∧ o.2.1 = b + Int.ofNat j ∧ i < 22 ∧ o.1 = Int.ofNat (i + 1) ∧ qbH i p.1 p.2 = some o.2.2 ∧ sm o.1 = true
 | [], b, o, h => by simp only [qeW] at h; cases h
 | p :: r, b, o, h => by
  simp only [qeW, List.mem_append] at h
  rcases h with h | h
  ·unfold qcA at h
   rw [List.mem_filterMap] at h
   obtain ⟨i, hi, h⟩ := h
   have hi : i < 22 := by
    simp only [ruL, List.mem_cons, List.not_mem_nil, or_false] at hi
    omega
   split at h
   ·rename_i hs
    rw [Option.map_eq_some_iff] at h
    obtain ⟨u, hu, rfl⟩ := h
    exact ⟨0, p, i, rfl, by simp, hi, rfl, hu, hs⟩
   ·cases h
  ·obtain ⟨j, q, i, h1, h2, h3⟩ := qfY h
   exact ⟨j + 1, q, i, by simpa using h1, by rw [h2]; simp only [Int.ofNat_eq_natCast]; omega, h3⟩
structure Right (a : Ar) (t : Tm) : Prop where
 c : qbG a t = 0
 ok : t.Ok
theorem Right.nd {a : Ar} {t : Tm} (h : Right a t) (h1 : a.ids.length ≤ 100000) (hs : t.size ≤ 100000) : Nd (qaH a) t := qiI h.c h.ok h1 hs
theorem qo1 {a : Ar} {t : Tm} {sm : Int → Bool} {o : Of} (h : Right a t) (h1 : a.ids.length ≤ 100000) (hs : t.size ≤ 100000) (ho : o ∈ qeW sm 0 (qbl t (qaH a))) : Right a (qez o.2.2 o.2.1 t) ∧ (qez o.2.2 o.2.1 t).size ≤ t.size := by
 have hnd := h.nd h1 hs
 obtain ⟨j, p, i, hj, ha, hi, _, hu, _⟩ := qfY ho
 have hp := List.mem_of_getElem? hj
 obtain ⟨hn, hsz⟩ := qeV _ t _ (Nat.le_refl _) hnd p hp
 have g := keep hn (qnC a t p hp) hi hu
 have hjl : j < t.size := by rw [← qcU t (qaH a)]; exact (List.getElem?_eq_some_iff.1 hj).1
 have hshu : Sh o.2.2 := qdu (x := p.1) (by rw [← g.sz]; exact g.ok2)
 obtain ⟨r1, r2, r3, r4⟩ := qji g.ok (Lk.of_ok g.sz g.ok2) hshu t.size t (qaH a) j (Nat.le_refl _) hj hnd
 have e : qez o.2.2 o.2.1 t = Tm.put1 o.2.2 j t := by
  unfold qez
  rw [if_pos (by rw [ha]; simp only [Int.ofNat_eq_natCast]; omega), ha]
  congr 1
  simp only [Int.ofNat_eq_natCast]; omega
 have hle := g.le
 rw [e]
 refine ⟨⟨?_, r3⟩, by omega⟩
 have hc := h.c
 unfold qbG at hc ⊢
 split at hc
 ·rename_i h0; exact absurd hc h0
 ·rename_i h0
  rw [if_neg h0]
  split at hc
  ·omega
  ·rename_i h6
   rw [if_neg (by omega), ← r1.2 a.root]
   exact hc
section
variable {ι : Type} {fv : ι → AVal} {C : ι → qaJ → ASt → Prop} {sm : Int → Bool}
def SmH (fv : ι → AVal) (C : ι → qaJ → ASt → Prop) (sm : Int → Bool) (n : Nat) : Prop := ∀ p E (s0 s : ASt) (pre : qaJ) (i : Nat), i < 22 → C p E s0 → s.heap = pre ++ s0.heap → (∀ v ∈ pre, s0.next ≤ v.1) → clv (qae CP n E) (fv p) [u8 (.ofNat (i + 1))] s = some (bl (sm (.ofNat (i + 1))), s)
theorem qtW (x : Vw) (t : Tm) (log : List Rw) (h : Ev fun n => SmH fv C sm n) : Ev fun n => SmC (fun q : K41 ι => q.M + 3) (fun q => fv q.p) (U41 fv C x t log) sm n :=
 h.mono fun n h q y E H pre s i hi hh hp hU => by
  obtain ⟨_, ⟨hC, hP, hlf, hlm⟩, tok, hH, _⟩ := hU
  subst hH
  refine h q.p E q.s0 s (pre ++ (q.M + 2, .loop (qm6 (x41 y)) (qd5 (x41 y)) q.fr q.lo [21, 22] ra41 rb41) :: (q.M + 1, .cells [fv q.p]) :: (q.M, .cells x.c) :: (q.lf, .cells [bl (m41 y)]) :: (q.P ++ [(q.s0.next + 4, .cells [qbu tok (qeZ log y)]), (q.s0.next + 3, .cells [i64 (e41 y)]), (q.s0.next + 2, .cells [.sl 0 [] .full]), (q.s0.next + 1, .cells ZC), (q.s0.next, .cells (t41 t y).c)])) i hi hC ?_ ?_
  ·rw [hh]; simp only [B41, List.append_assoc, List.cons_append, List.nil_append]
  ·intro v hv
   simp only [List.mem_append, List.mem_cons, List.not_mem_nil, or_false] at hv
   rcases hv with hv | rfl | rfl | rfl | rfl | hv | rfl | rfl | rfl | rfl | rfl
   ·have := hp v hv; simp only at this; omega
   all_goals first | (have := hP v hv; omega) | (simp only; omega)
theorem qvi (x : Vw) (t : Tm) (log : List Rw) (q : K41 ι) (y : Y41) (E H : qaJ) (tk : Nat × List (Nat × Nat × Nat)) (h : U41 fv C x t log q y E H tk) : qcI E H q.M = some x.c ∧ q.M < q.M + 3 := by
 obtain ⟨_, _, tok, rfl, _⟩ := h
 exact ⟨by rw [qcp (by omega), qcp (by omega), qeY], by omega⟩
theorem qvj (x : Vw) (t : Tm) (log : List Rw) (q : K41 ι) (y : Y41) (E H : qaJ) (tk : Nat × List (Nat × Nat × Nat)) (h : U41 fv C x t log q y E H tk) : qcI E H (q.M + 1) = some [fv q.p] ∧ q.M + 1 < q.M + 3 := by
 obtain ⟨_, _, tok, rfl, _⟩ := h
 exact ⟨by rw [qcp (by omega), qeY], by omega⟩
end
end Go.AI.Tryz
namespace Go.AI.Tryz
theorem qtX (log : List Rw) (l : List Of) : (qbb (qiN log) none l).1 = match l with | [] => none | o :: _ => if log.length = 2000 then some none else some (some o) := by
 cases l with
 | nil => rfl
 | cons o r =>
  simp only [qbb, qiN]
  split <;> simp
def r41 (log : List Rw) : List Of → Y41
 | [] => none
 | o :: _ => if log.length = 2000 then some none else some (some o)
theorem qsh (log : List Rw) (l : List Of) : (qbb (qiN log) none l).1 = r41 log l := by
 rw [qtX]; cases l <;> rfl
def qsD (a : Ar) (sm : Int → Bool) (m : Nat) (t : Tm) (log : List Rw) : List Of → Tm × List Rw × Int
 | [] => (t, log, 0)
 | o :: _ => if log.length = 2000 then (.z, [], 5) else qfX a sm m (qez o.2.2 o.2.1 t) (log ++ [(o.1, o.2.1)])
theorem qdU (a : Ar) (sm : Int → Bool) (m : Nat) (t : Tm) (log : List Rw) : qfX a sm (m + 1) t log = qsD a sm m t log (qeW sm 0 (qbl t (qaH a))) := by
 rw [qfX]; cases qeW sm 0 (qbl t (qaH a)) <;> rfl
section
variable {ι : Type} {fv : ι → AVal} {C : ι → qaJ → ASt → Prop} {sm : Int → Bool}
abbrev ac (a : Ar) : List AVal := [.p (.sl a.ids.length (qaY Ty.cells a.ids)), bl a.root.cell, i64 a.root.n, bl a.jumps]
theorem qsi {n : Nat} {E : qaJ} (a : Ar) (p : ι) (s0 s : ASt) (t : Tm) (log : List Rw) (tok lf k : Nat) (P : qaJ) (hP : ∀ v ∈ P, s0.next + 5 ≤ v.1) (hlf : s0.next + 5 ≤ lf) (hh : s.heap = (lf, .cells [bl false]) :: (P ++ B41 s0 t 0 (qbu tok log))) :
  ∃ s', lp (fun _ _ _ _ _ _ => none) (F41 (qae CP n E) n (ac a) s0.next (fv p) (s0.next + 1) (s0.next + 2) (s0.next + 3) (s0.next + 4)) (k + 1) (.ptr lf 0) 0 0 [] [] s = some (.tuple [t.v, qbu tok log, i64 0], s') := by
 let N := s0.next
 let W : qaJ := (lf, .cells [bl false]) :: P
 let hp : AVal → List AVal → qaJ := fun c10 c8 => W ++ (N + 4, .cells [qbu tok log]) :: (N + 3, .cells [i64 0]) :: (N + 2, .cells [c10]) :: (N + 1, .cells c8) :: (N, .cells t.c) :: s0.heap
 have hW : ∀ v ∈ W, N + 5 ≤ v.1 := fun v hv => by
  rcases List.mem_cons.1 hv with rfl | hv
  ·exact hlf
  ·exact hP v hv
 have h0 : s.heap = hp (.sl 0 [] .full) ZC := hh.trans rfl
 have hne : ∀ (T : qaJ) (l : Nat), l < N + 5 → (∀ v ∈ T, l < v.1) → ∀ v ∈ W ++ T, v.1 ≠ l := by
  intro T l hl hT v hv
  rw [List.mem_append] at hv
  rcases hv with hv | hv
  ·have := hW v hv; omega
  ·have := hT v hv; omega
 have i3 : ∀ c8 c10, hp c8 c10 = (W ++ [(N + 4, .cells [qbu tok log])]) ++ (N + 3, .cells [i64 0]) :: (N + 2, .cells [c8]) :: (N + 1, .cells c10) :: (N, .cells t.c) :: s0.heap := fun _ _ => by simp only [hp, List.append_assoc, List.cons_append, List.nil_append]
 have i2 : ∀ c8 c10, hp c8 c10 = (W ++ [(N + 4, .cells [qbu tok log]), (N + 3, .cells [i64 0])]) ++ (N + 2, .cells [c8]) :: (N + 1, .cells c10) :: (N, .cells t.c) :: s0.heap := fun _ _ => by simp only [hp, List.append_assoc, List.cons_append, List.nil_append]
 have i1 : ∀ c8 c10, hp c8 c10 = (W ++ [(N + 4, .cells [qbu tok log]), (N + 3, .cells [i64 0]), (N + 2, .cells [c8])]) ++ (N + 1, .cells c10) :: (N, .cells t.c) :: s0.heap := fun _ _ => by simp only [hp, List.append_assoc, List.cons_append, List.nil_append]
 have i0 : ∀ c8 c10, hp c8 c10 = (W ++ [(N + 4, .cells [qbu tok log]), (N + 3, .cells [i64 0]), (N + 2, .cells [c8]), (N + 1, .cells c10)]) ++ (N, .cells t.c) :: s0.heap := fun _ _ => by simp only [hp, List.append_assoc, List.cons_append, List.nil_append]
 have n4 : ∀ v ∈ W, v.1 ≠ N + 4 := fun v hv => by have := hW v hv; omega
 have n3 : ∀ v ∈ W ++ [(N + 4, HObj.cells [qbu tok log])], v.1 ≠ N + 3 := hne _ _ (by omega) (by intro v hv; simp only [List.mem_cons, List.not_mem_nil, or_false] at hv; subst hv; simp only; omega)
 have n2 : ∀ v ∈ W ++ [(N + 4, HObj.cells [qbu tok log]), (N + 3, .cells [i64 0])], v.1 ≠ N + 2 := hne _ _ (by omega) (by intro v hv; simp only [List.mem_cons, List.not_mem_nil, or_false] at hv; rcases hv with rfl | rfl <;> simp only <;> omega)
 have n1 : ∀ c, ∀ v ∈ W ++ [(N + 4, HObj.cells [qbu tok log]), (N + 3, .cells [i64 0]), (N + 2, .cells [c])], v.1 ≠ N + 1 := fun c => hne _ _ (by omega) (by intro v hv; simp only [List.mem_cons, List.not_mem_nil, or_false] at hv; rcases hv with rfl | rfl | rfl <;> simp only <;> omega)
 have n0 : ∀ c d, ∀ v ∈ W ++ [(N + 4, HObj.cells [qbu tok log]), (N + 3, .cells [i64 0]), (N + 2, .cells [c]), (N + 1, .cells d)], v.1 ≠ N := fun c d => hne _ _ (by omega) (by intro v hv; simp only [List.mem_cons, List.not_mem_nil, or_false] at hv; rcases hv with rfl | rfl | rfl | rfl <;> simp only <;> omega)
 have c4 : ∀ (s' : ASt) c d, s'.heap = hp c d → qak (qae CP n E).E s' (N + 4) = some [qbu tok log] := fun s' c d h => qbE h n4
 have c3 : ∀ (s' : ASt) c d, s'.heap = hp c d → qak (qae CP n E).E s' (N + 3) = some [i64 0] := fun s' c d h => qbE (h.trans (i3 ..)) n3
 have c2 : ∀ (s' : ASt) c d, s'.heap = hp c d → qak (qae CP n E).E s' (N + 2) = some [c] := fun s' c d h => qbE (h.trans (i2 ..)) n2
 have c1 : ∀ (s' : ASt) c d, s'.heap = hp c d → qak (qae CP n E).E s' (N + 1) = some d := fun s' c d h => qbE (h.trans (i1 ..)) (n1 c)
 have c0 : ∀ (s' : ASt) c d, s'.heap = hp c d → qak (qae CP n E).E s' N = some t.c := fun s' c d h => qbE (h.trans (i0 ..)) (n0 c d)
 let sA : ASt := { s with heap := hp (.sl 0 [] .full) t.c }
 let sB : ASt := { s with heap := hp (qbu tok log) t.c }
 have w1 : stH s (.ptr (N + 1) 0) t.c = some sA := by
  have := qfE (o := 0) (cs := t.c) (new := t.c) (h0.trans (i1 ..)) (n1 _) rfl rfl
  rw [← i1] at this
  exact this
 have w2 : stH sA (.ptr (N + 2) 0) [qbu tok log] = some sB := by
  have := qfE (s := sA) (o := 0) (cs := [qbu tok log]) (new := [qbu tok log]) (i2 ..) n2 (qfW _ _) rfl
  rw [← i2] at this
  exact this
 have w3 : stH sB (.ptr (N + 3) 0) [i64 0] = some sB := by
  have := qfE (s := sB) (o := 0) (cs := [i64 0]) (new := [i64 0]) (i3 ..) n3 rfl rfl
  rw [← i3] at this
  exact this
 have one : ∀ v : AVal, ldL [v] 0 none = some v := fun _ => rfl
 have clf : qak (qae CP n E).E s lf = some [bl false] := qaV hh
 have lg : ∀ (s' : ASt) c d, s'.heap = hp c d → loadFrom (qae CP n E).E .nil s' (.ptr (N + 4) 0) 1 = some [qbu tok log] := fun s' c d h => by
  simp only [loadFrom, c4 s' c d h, Option.bind_some]
  rfl
 refine ⟨sB, ?_⟩
 rw [qbj]
 generalize lp _ _ k = L
 unfold F41
 have c0' : qak (qae CP n E).E s s0.next = some t.c := c0 s _ _ h0
 have c4' : qak (qae CP n E).E s (s0.next + 4) = some [qbu tok log] := c4 s _ _ h0
 have c1B : qak (qae CP n E).E sB (s0.next + 1) = some t.c := c1 sB _ _ rfl
 have c2B : qak (qae CP n E).E sB (s0.next + 2) = some [qbu tok log] := c2 sB _ _ rfl
 have c3B : qak (qae CP n E).E sB (s0.next + 3) = some [i64 0] := c3 sB _ _ rfl
 have w1' : stH s (.ptr (s0.next + 1) 0) t.c = some sA := w1
 have w2' : stH sA (.ptr (s0.next + 2) 0) [qbu tok log] = some sB := w2
 have w3' : stH sB (.ptr (s0.next + 3) 0) [i64 0] = some sB := w3
 have lg1 : loadFrom (qae CP n E).E .nil s (.ptr (s0.next + 4) 0) 1 = some [qbu tok log] := lg s _ _ h0
 have lg2 : loadFrom (qae CP n E).E .nil sA (.ptr (s0.next + 4) 0) 1 = some [qbu tok log] := lg sA _ _ rfl
 simp only [ldP clf, one, ldP c0', ldP c4', qeX, w1', w2', w3', ldP c1B, ldP c2B, ldP c3B, lg1, lg2, qqh, qbd, Bool.and_self, qal, qaZ, qaa, cond_false, qav, Option.bind_some, cnd]
theorem qme (a : Ar) (h1 : a.ids.length ≤ 100000) (hfa : ∀ p, qaK (fv p) = true) (hfw : ∀ p, qbg (fv p) = true) (hfe : ∀ p, qaA (fv p) = fv p) (hfc : ∀ p, AVal.cells none (fv p) = some [fv p]) (hsm : Ev fun n => SmH fv C sm n) :
  ∀ (m : Nat) (t : Tm) (log : List Rw), 1 ≤ m → log.length + m = 2001 → Right a t → t.size ≤ 100000 →
   Ev fun n => ∀ p E (s0 s : ASt) (tok lf k : Nat) (P : qaJ), C p E s0 → (∀ v ∈ P, s0.next + 5 ≤ v.1) → s0.next + 5 ≤ lf → lf < s.next → s.heap = (lf, .cells [bl true]) :: (P ++ B41 s0 t 0 (qbu tok log)) → qj9 (qk5 s) tok log → m + 2 ≤ k →
    ∃ r s', lp (fun _ _ _ _ _ _ => none) (F41 (qae CP n E) n (ac a) s0.next (fv p) (s0.next + 1) (s0.next + 2) (s0.next + 3) (s0.next + 4)) k (.ptr lf 0) 0 0 [] [] s = some (r, s') ∧ qaA r = qiO (qfX a sm m t log)
 | 0, t, log, h, hm, ht, hs => absurd h (by omega)
 | m + 1, t, log, _, hm, ht, hs => by
  have hnd := ht.nd h1 hs
  let x := vw (qaH a) t
  let l := qeW sm 0 (qbl t (qaH a))
  have hoff := qj8 (κ := K41 ι) (N0 := fun q => q.M + 3) (l4 := fun q => q.M) (l7 := fun q => q.M + 1) (yv := fun q => .yield (q.M + 2)) (someV := fun q => fv q.p) (U := U41 fv C x t log) (st := qiN log) (sm := sm) (OS := fun u => u.size ≤ 100000) (live := fun _ y => y = none) hnd (by omega) (fun m y h => h) (fun _ => rfl) (fun _ => rfl) (fun _ => rfl) (fun _ => rfl) (qvj x t log) (qvi x t log) (qoX ht.c ht.ok h1 hs (qnC a t)) (qsg fv C x t log hs (by omega)) (qtW x t log hsm)
  have hof := qoE (ι := ι) x fv hfa hfw hfe hfc
  have IH : Ev fun n => ∀ o r, l = o :: r → log.length ≠ 2000 → ∀ p E (s0 s : ASt) (tok lf k : Nat) (P : qaJ), C p E s0 → (∀ v ∈ P, s0.next + 5 ≤ v.1) → s0.next + 5 ≤ lf → lf < s.next → s.heap = (lf, .cells [bl true]) :: (P ++ B41 s0 (qez o.2.2 o.2.1 t) 0 (qbu tok (log ++ [(o.1, o.2.1)]))) → qj9 (qk5 s) tok (log ++ [(o.1, o.2.1)]) → m + 2 ≤ k →
    ∃ r s', lp (fun _ _ _ _ _ _ => none) (F41 (qae CP n E) n (ac a) s0.next (fv p) (s0.next + 1) (s0.next + 2) (s0.next + 3) (s0.next + 4)) k (.ptr lf 0) 0 0 [] [] s = some (r, s') ∧ qaA r = qiO (qfX a sm m (qez o.2.2 o.2.1 t) (log ++ [(o.1, o.2.1)])) := by
   cases hl : l with
   | nil => exact Ev.of fun n o r h => nomatch h
   | cons o r =>
    by_cases h20 : log.length = 2000
    ·exact Ev.of fun n o' r' _ h => absurd h20 h
    have hst := qo1 (o := o) (sm := sm) ht h1 hs (by show o ∈ l; rw [hl]; exact List.mem_cons_self ..)
    refine (qme a h1 hfa hfw hfe hfc hsm m (qez o.2.2 o.2.1 t) (log ++ [(o.1, o.2.1)]) (by omega) (by simp only [List.length_append, List.length_cons, List.length_nil]; omega) hst.1 (by have := hst.2; omega)).mono fun n h o' r' e _ => ?_
    simp only [List.cons.injEq] at e
    obtain ⟨rfl, _⟩ := e
    exact h
  refine (((qqV a t h1).and hof).and (hoff.and (IH.and (Ev.ge 1)))).mono fun n ⟨⟨hl, hof⟩, hoff, IH, hn⟩ p E s0 s tok lf k P hC hP hlf hlt hh hok hk => ?_
  obtain ⟨k, rfl⟩ : ∃ k', k = k' + 1 := ⟨k - 1, by omega⟩
  let R := (qbb (qiN log) none l).1
  have hR : R = r41 log l := qsh log l
  let s34 : ASt := { s with heap := (lf, .cells [bl false]) :: (P ++ B41 s0 t 0 (qbu tok log)) }
  let M := s.next
  let s40 := qaf (qaf s34 (.cells x.c)) (.cells [fv p])
  have hres : qfX a sm (m + 1) t log = qsD a sm m t log l := qdU a sm m t log
  suffices F41 (qae CP n E) n (ac a) s0.next (fv p) (s0.next + 1) (s0.next + 2) (s0.next + 3) (s0.next + 4) (lp (fun _ _ _ _ _ _ => none) (F41 (qae CP n E) n (ac a) s0.next (fv p) (s0.next + 1) (s0.next + 2) (s0.next + 3) (s0.next + 4)) k) (.ptr lf 0) 0 0 [] [] s = some (qiO (qfX a sm (m + 1) t log), s40) from ⟨_, s40, (by rw [qbj]; exact this), qo0 _⟩
  have hrf : ∀ (F : FL) (L : LL) (kn kx kr : ASt → Res), qan F 4 = some (.ptr s0.next 0) → qan F 6 = some (.ptr (s0.next + 1) 0) → qan F 7 = some (.ptr (s0.next + 2) 0) → qan F 8 = some (.ptr (s0.next + 3) 0) → qan F 9 = some (.ptr (s0.next + 4) 0) → qan F 10 = some (.ptr lf 0) → (∃ p, qan L 1 = some p) → (∃ p, qan L 2 = some p) →
    (∀ (s' : ASt) (P1 : qaJ) (tok' : Nat), s'.heap = P1 ++ (lf, .cells [bl (m41 R)]) :: (P ++ B41 s0 (t41 t R) (e41 R) (qbu tok' (qeZ log R))) → (∀ v ∈ P1, lf < v.1) → lf < s'.next → qj9 (qk5 s') tok' (qeZ log R) → ∃ s2 r', qaA r' = qiO (qfX a sm (m + 1) t log) ∧ (match R with | none => kn s' = some (r', s2) | some none => kr s' = some (r', s2) | some (some _) => kx s' = some (r', s2))) →
    qmz (qae CP n E) n 63 (.func 94 [] [.ptr M 0, .ptr (M + 1) 0]) [21, 22] ra41 rb41 F L s40 kn kx kr (qiO (qfX a sm (m + 1) t log)) := by
   intro F L kn kx kr hF4 hF6 hF7 hF8 hF9 hF10 ⟨p1, hL1⟩ ⟨p2, hL2⟩ hkn
   refine qtO hn fun fr lo hF hh' hlo hL => ?_
   let LP : Y41 → HObj := fun y => .loop (qm6 (x41 y)) (qd5 (x41 y)) fr lo [21, 22] ra41 rb41
   have hU : U41 fv C x t log ⟨p, fr, lo, M, lf, P, s0⟩ none E (qaf s40 (LP none)).heap (qk5 (qaf s40 (LP none))) := ⟨⟨hF 4 _ hF4, hF 6 _ hF6, hF 7 _ hF7, hF 8 _ hF8, hF 9 _ hF9, hF 10 _ hF10, hh', hlo, hL 1 _ hL1, hL 2 _ hL2⟩, ⟨hC, hP, hlf, hlt⟩, tok, rfl, hok⟩
   obtain ⟨s', pre', H', e1, e2, e3, e4, ⟨_, _, tok', hH', hok'⟩⟩ := hoff ⟨p, fr, lo, M, lf, P, s0⟩ none E (qaf s40 (LP none)) (Nat.le_refl _) hU rfl
   have hR' : (qbb (qiN log) none (qeW sm 0 (qbl t (qaH a)))).1 = R := rfl
   rw [hR'] at hH' hok'
   subst hH'
   simp only at e2 e3
   obtain ⟨s2, r', her, hk⟩ := hkn { s' with heap := pre' ++ (s40.next, .gone) :: (M + 1, .cells [fv p]) :: (M, .cells x.c) :: (lf, .cells [bl (m41 R)]) :: (P ++ B41 s0 (t41 t R) (e41 R) (qbu tok' (qeZ log R))) }
    (pre' ++ [(s40.next, .gone), (M + 1, .cells [fv p]), (M, .cells x.c)]) tok' (by simp only [List.append_assoc, List.cons_append, List.nil_append]) (by
    intro v hv
    simp only [List.mem_append, List.mem_cons, List.not_mem_nil, or_false] at hv
    rcases hv with hv | rfl | rfl | rfl
    ·have := e3 v hv; show lf < v.1; omega
    ·show lf < s.next + 1 + 1; omega
    ·show lf < s.next + 1; omega
    ·show lf < s.next; omega) (by show lf < s'.next; rw [e4]; show lf < s.next + 1 + 1 + 1 + 3; omega) hok'
   refine ⟨x41 R, s', pre', _, s2, r', e1, e2, fun v hv => by have := e3 v hv; show v.1 ≠ s.next + 1 + 1; omega, her, ?_⟩
   generalize R = R' at hk ⊢
   match R' with
   | none => exact hk
   | some none => exact hk
   | some (some o) => exact ⟨rfl, hk⟩
  have c6 : qak (qae CP n E).E s34 s0.next = some t.c := by
   refine qbE (pre := ((lf, .cells [bl false]) :: P) ++ [(s0.next + 4, .cells [qbu tok log]), (s0.next + 3, .cells [i64 0]), (s0.next + 2, .cells [.sl 0 [] .full]), (s0.next + 1, .cells ZC)]) (H := s0.heap) (by simp only [s34, B41, List.append_assoc, List.cons_append, List.nil_append]) ?_
   intro v hv
   simp only [List.mem_append, List.mem_cons, List.not_mem_nil, or_false] at hv
   rcases hv with (rfl | hv) | rfl | rfl | rfl | rfl
   ·simp only; omega
   ·have := hP v hv; omega
   all_goals simp only; omega
  have clf : qak (qae CP n E).E s lf = some [bl true] := qaV hh
  have wlf : stH s (.ptr lf 0) [bl false] = some s34 := quu hh rfl rfl
  have hl' : ∀ E s, cl (qae CP n E) 65 [a.v, t.v] s = some (x.v, s) := hl
  have ho' : cl (qae CP n E) 54 [x.v, fv p] s34 = some (.func 94 [] [.ptr M 0, .ptr (M + 1) 0], s40) := hof p E s34
  have one : ∀ v : AVal, ldL [v] 0 none = some v := fun _ => rfl
  generalize hLP : lp (fun _ _ _ _ _ _ => none) (F41 (qae CP n E) n (ac a) s0.next (fv p) (s0.next + 1) (s0.next + 2) (s0.next + 3) (s0.next + 4)) k = LPk
  unfold F41
  simp only [ldP clf, one, qby, wlf, qoZ, ldP c6, hl', ho', qaZ, qaa, cond_true, qav, Option.bind_some, qab, cnd]
  refine qqU 6 2 ?_ (by omega) ?_ (hrf _ _ _ _ _ rfl rfl rfl rfl rfl rfl ⟨_, rfl⟩ ⟨_, rfl⟩ fun s' P1 tok' hh' hP1 hlt' hok' => ?_)
  ·intro p hp
   simp only [List.mem_cons, List.not_mem_nil, or_false] at hp
   rcases hp with rfl | rfl | rfl | rfl | rfl | rfl | rfl | rfl | rfl | rfl | rfl | rfl | rfl | rfl <;> simp only <;> omega
  ·intro p hp
   simp only [List.mem_cons, List.not_mem_nil, or_false] at hp
   rcases hp with rfl | rfl | rfl | rfl <;> simp only <;> omega
  ·have hfz : AVal.cells none (.sl 0 [] .full) = some [.sl 0 [] .full] := rfl
   have hj : ∀ b, qak (qae CP n E).E s' lf = some [bl b] → ∃ s2, s41_0 (qae CP n E) n (.ptr lf 0) LPk 0 0 [] [] s' = LPk (.ptr s'.next 0) 0 0 [] [] s2 ∧ s2 = qaf s' (.cells [bl b]) := by
    intro b hb
    have hst : stH (qaf s' (.cells [bl false])) (.ptr s'.next 0) [bl b] = some (qaf s' (.cells [bl b])) := qg9 _ _ _ _ _ rfl rfl
    refine ⟨_, ?_, rfl⟩
    unfold s41_0
    simp only [ldP hb, one, qby, hst, Option.bind_some, qaS]
   have hcf : qak (qae CP n E).E s' lf = some [bl (m41 R)] := qbE hh' (fun v hv => by have := hP1 v hv; omega)
   have hP2 : ∀ b, ∀ v ∈ P1 ++ (lf, HObj.cells [bl b]) :: P, s0.next + 5 ≤ v.1 := by
    intro b v hv
    simp only [List.mem_append, List.mem_cons] at hv
    rcases hv with hv | rfl | hv
    ·have := hP1 v hv; omega
    ·exact hlf
    ·exact hP v hv
   rw [hres]
   obtain ⟨s2, j1, j2⟩ := hj _ hcf
   rw [hR] at hcf hh' hok' j2 ⊢
   cases hll : l with
   | nil =>
    rw [hll] at hh' hok' j2
    obtain ⟨s3, e3⟩ := qsi (fv := fv) (n := n) (E := E) a p s0 s2 t log tok' s'.next (k - 1) (P1 ++ (lf, .cells [bl false]) :: P) (hP2 false) (by omega) (by rw [j2]; show (s'.next, HObj.cells [bl false]) :: s'.heap = _; rw [hh']; simp only [r41, m41, t41, e41, qeZ, List.append_assoc, List.cons_append])
    refine ⟨s3, _, qtV _ tok' _ _, ?_⟩
    show s41_0 (qae CP n E) n (.ptr lf 0) LPk 0 0 [] [] s' = _
    rw [j1, ← hLP, show k = k - 1 + 1 by omega]
    exact e3
   | cons o r =>
    rw [hll] at hh' hok' j2
    by_cases h20 : log.length = 2000
    ·have hr : r41 log (o :: r) = some none := if_pos h20
     rw [hr] at hh' ⊢
     have ha : qsD a sm m t log (o :: r) = (.z, [], 5) := if_pos h20
     rw [ha]
     refine ⟨s', .tuple [.agg [u8 0, i64 0, i64 0, i64 0, .sl 0 [] .full], .sl 0 [] .full, i64 5], rfl, ?_⟩
     have q8 : qak (qae CP n E).E s' (s0.next + 1) = some ZC := by
      refine qbE (pre := (P1 ++ (lf, .cells [bl false]) :: P) ++ [(s0.next + 4, .cells [qbu tok' log]), (s0.next + 3, .cells [i64 5]), (s0.next + 2, .cells [.sl 0 [] .full])]) (H := (s0.next, .cells t.c) :: s0.heap) (by rw [hh']; simp only [m41, t41, e41, qeZ, B41, List.append_assoc, List.cons_append, List.nil_append]) ?_
      intro v hv
      rw [List.mem_append] at hv
      rcases hv with hv | hv
      ·have := hP2 false v hv; omega
      ·simp only [List.mem_cons, List.not_mem_nil, or_false] at hv
       rcases hv with rfl | rfl | rfl <;> simp only <;> omega
     have q10 : qak (qae CP n E).E s' (s0.next + 2) = some [.sl 0 [] .full] := by
      refine qbE (pre := (P1 ++ (lf, .cells [bl false]) :: P) ++ [(s0.next + 4, .cells [qbu tok' log]), (s0.next + 3, .cells [i64 5])]) (H := (s0.next + 1, .cells ZC) :: (s0.next, .cells t.c) :: s0.heap) (by rw [hh']; simp only [m41, t41, e41, qeZ, B41, List.append_assoc, List.cons_append, List.nil_append]) ?_
      intro v hv
      rw [List.mem_append] at hv
      rcases hv with hv | hv
      ·have := hP2 false v hv; omega
      ·simp only [List.mem_cons, List.not_mem_nil, or_false] at hv
       rcases hv with rfl | rfl <;> simp only <;> omega
     have q12 : qak (qae CP n E).E s' (s0.next + 3) = some [i64 5] := by
      refine qbE (pre := (P1 ++ (lf, .cells [bl false]) :: P) ++ [(s0.next + 4, .cells [qbu tok' log])]) (H := (s0.next + 2, .cells [.sl 0 [] .full]) :: (s0.next + 1, .cells ZC) :: (s0.next, .cells t.c) :: s0.heap) (by rw [hh']; simp only [m41, t41, e41, qeZ, B41, List.append_assoc, List.cons_append, List.nil_append]) ?_
      intro v hv
      rw [List.mem_append] at hv
      rcases hv with hv | hv
      ·have := hP2 false v hv; omega
      ·simp only [List.mem_cons, List.not_mem_nil, or_false] at hv
       subst hv; simp only; omega
     have hzl : ldL ZC 0 (some 5) = some (.agg [u8 0, i64 0, i64 0, i64 0, .sl 0 [] .full]) := rfl
     show ((ldH (qae CP n E) s' (.ptr (s0.next + 1) 0) (some 5)).bind fun x55 => _) = _
     simp only [ldP q8, ldP q10, ldP q12, hzl, one, Option.bind_some]
    ·have hr : r41 log (o :: r) = some (some o) := if_neg h20
     rw [hr] at hh' hok' j2 ⊢
     have ha : qsD a sm m t log (o :: r) = qfX a sm m (qez o.2.2 o.2.1 t) (log ++ [(o.1, o.2.1)]) := if_neg h20
     rw [ha]
     obtain ⟨r', s3, e3, her⟩ := IH o r hll h20 p E s0 s2 tok' s'.next k (P1 ++ (lf, .cells [bl true]) :: P) hC (hP2 true) (by omega) (by rw [j2]; exact Nat.lt_succ_self _) (by rw [j2]; show (s'.next, HObj.cells [bl true]) :: s'.heap = _; rw [hh']; simp only [m41, t41, e41, qeZ, List.append_assoc, List.cons_append]) (by rw [j2]; exact hok') (by omega)
     refine ⟨s3, r', her, ?_⟩
     show s41_0 (qae CP n E) n (.ptr lf 0) LPk 0 0 [] [] s' = _
     rw [j1, ← hLP]
     exact e3
end
end Go.AI.Tryz
namespace Go.AI.Tryz
section
variable {ι : Type} {fv : ι → AVal} {C : ι → qaJ → ASt → Prop} {sm : Int → Bool}
theorem qtY (a : Ar) (t : Tm) (ht : Right a t) (h1 : a.ids.length ≤ 100000) (hs : t.size ≤ 100000) (hS : ∀ p, Stab (C p)) (hfa : ∀ p, qaK (fv p) = true) (hfw : ∀ p, qbg (fv p) = true) (hfe : ∀ p, qaA (fv p) = fv p) (hfc : ∀ p, AVal.cells none (fv p) = some [fv p]) (hsm : Ev fun n => SmH fv C sm n) :
  UC 41 (fun p => [a.v, t.v, fv p]) C (fun _ => qiO (qfX a sm 2001 t [])) := by
 refine UC.of (cf := cf41) (np := 3) (by kernel_rfl) (by kernel_rfl) (fun _ => rfl) (fun p => by simp only [List.all_cons, qam, hfw]; rfl) (fun p => by simp only [List.map_cons, qao, hfe]; rfl) hS (fun p lo => qke lo _)
  (((qme a h1 hfa hfw hfe hfc hsm 2001 t [] (by omega) rfl ht hs).and ((qp6 t (by omega)).and (Ev.ge 2003))).mono fun n ⟨hl, hcp, hn⟩ p E s hC => ?_)
 let B : qaJ := B41 s t 0 (.sl 0 [] .full)
 let s20 : ASt := qaf (qaf (qaf (qaf (qaf s (.cells t.c)) (.cells ZC)) (.cells [.sl 0 [] .full])) (.cells [i64 0])) (.cells [.sl 0 [] .full])
 let s24 := qaf s20 (.cells [bl true])
 obtain ⟨r, s', e, her⟩ := hl p E s s24 0 (s.next + 5) n [] hC (fun v hv => by cases hv) (Nat.le_refl _) (Nat.lt_succ_self _) rfl (fun h => absurd rfl h) hn
 refine ⟨r, s', (s41_eq _ _ _ _ _ _).trans ?_, her⟩
 have hc6 : qak (qae CP n E).E (qaf (qaf (qaf (qaf (qaf s (.cells t.c)) (.cells [u8 0, i64 0, i64 0, i64 0, .sl 0 [] .full])) (.cells [.sl 0 [] .full])) (.cells [i64 0])) (.cells [.sl 0 [] .full])) s.next = some t.c := by
  show qak _ s20 s.next = _
  rw [qbc (s := s20) rfl (by show s.next + 1 + 1 + 1 + 1 ≠ s.next; omega), qbc rfl (by show s.next + 1 + 1 + 1 ≠ s.next; omega), qbc rfl (by show s.next + 1 + 1 ≠ s.next; omega), qbc rfl (by show s.next + 1 ≠ s.next; omega)]
  exact qaV rfl
 have w6 : stH (qaf (qaf (qaf (qaf (qaf s (.cells t.c)) (.cells [u8 0, i64 0, i64 0, i64 0, .sl 0 [] .full])) (.cells [.sl 0 [] .full])) (.cells [i64 0])) (.cells [.sl 0 [] .full])) (.ptr s.next 0) t.c = some s20 := by
  refine (qfE (s := s20) (pre := [(s.next + 1 + 1 + 1 + 1, .cells [.sl 0 [] .full]), (s.next + 1 + 1 + 1, .cells [i64 0]), (s.next + 1 + 1, .cells [.sl 0 [] .full]), (s.next + 1, .cells ZC)]) (H := s.heap) (l := s.next) (o := 0) (zs := t.c) (cs := t.c) (new := t.c) rfl ?_ rfl rfl).trans rfl
  intro v hv
  simp only [List.mem_cons, List.not_mem_nil, or_false] at hv
  rcases hv with rfl | rfl | rfl | rfl <;> simp only <;> omega
 have w21 : stH (qaf s20 (.cells [bl false])) (.ptr s20.next 0) [bl true] = some s24 := qg9 _ _ _ _ _ rfl rfl
 unfold s41
 simp only [qee, hcp, ldP hc6, w6, w21, qby, qal, qaZ, qtq, Option.bind_some, qab, qaS, cnd]
 rw [lp41]
 exact e
end
theorem qqi : Ev fun n => SmH (ι := Unit) (fun _ => .p (.func 42 [] [])) (fun _ _ _ => True) qcV n :=
 (every_u.and (Ev.ge 1)).mono fun n ⟨h, hn⟩ p E s0 s pre i _ _ _ _ => by
  rw [qeO CP hn]
  exact h (.ofNat (i + 1)) E s trivial
def qsE (a : Ar) (t : Tm) : Tm × List Rw × Int := if qbG a t = 0 then qfX a qcV 2001 t [] else (.z, [], qbG a t)
theorem qsj (a : Ar) (t : Tm) (oa : a.Ok) (ok : t.Ok) (h1 : a.ids.length ≤ 100000) (hs : t.size ≤ 100000) : PC CP 13 [a.v, t.v] (qiO (qsE a t)) := by
 unfold qsE
 by_cases hc : qbG a t = 0
 ·rw [if_pos hc]
  refine PC.of2 (cf := cf13) (np := 2) (args' := [a.v, t.v]) (by kernel_rfl) (by kernel_rfl) rfl (by simp only [List.all_cons, qam]; rfl) (by simp only [List.map_cons, qao]; rfl) (fun lo => qke lo _)
   (((qhJ a t oa ok h1 hs).and (qtY a t ⟨hc, ok⟩ h1 hs (fun _ => Stab.true) (fun _ => rfl) (fun _ => rfl) (fun _ => rfl) (fun _ => rfl) qqi)).mono fun n ⟨hl, hd⟩ E s => ⟨qiO (qfX a qcV 2001 t []), s, (s13_eq _ _ _ _ _).trans ?_, qo0 _⟩)
  rw [hc] at hl
  have hd' : cl (qae CP n E) 41 [a.v, t.v, .p (.func 42 [] [])] s = some (qiO (qfX a qcV 2001 t []), s) := hd () E s trivial
  have l30 : ∀ a b c : AVal, qd4 [a, b, c] 0 = some a := fun _ _ _ => rfl
  have l31 : ∀ a b c : AVal, qd4 [a, b, c] 1 = some b := fun _ _ _ => rfl
  have x2 : ∀ a b c : AVal, ex (.tuple [a, b, c]) 2 = some c := fun _ _ _ => rfl
  unfold s13
  simp only [qee, qoZ, hl, hd', l30, l31, x2, qal, qaZ, qaC, qax, qgE, qag, qbq, decide_true, Bool.not_true, qaa, cond_false, Option.map_some, Option.bind_some, qab, qai, qar, qas]
 ·rw [if_neg hc]
  refine PC.of2 (cf := cf13) (np := 2) (args' := [a.v, t.v]) (by kernel_rfl) (by kernel_rfl) rfl (by simp only [List.all_cons, qam]; rfl) (by simp only [List.map_cons, qao]; rfl) (fun lo => qke lo _)
   ((qhJ a t oa ok h1 hs).mono fun n hl E s => ⟨.tuple [.agg [u8 0, i64 0, i64 0, i64 0, .sl 0 [] .full], .sl 0 [] .full, i64 (qbG a t)], s, (s13_eq _ _ _ _ _).trans ?_, rfl⟩)
  unfold s13
  simp only [qee, qoZ, hl, hc, zbd, qoY, qvx, qtU, qal, qaZ, qax, qgE, qag, qbq, decide_false, Bool.not_false, qaa, cond_true, Option.map_some, Option.bind_some, qab, qai, qar, qas]
end Go.AI.Tryz
namespace Go.AI.Tryz
def u8C (n : Int) : List PVal := [.int .u8 n]
abbrev u8s (l : List Int) : AVal := .p (.sl l.length (qaY u8C l))
theorem qo2 (rs : List Int) (hl : rs.length ≤ 1000000) : UC 67 (fun k : Int => [u8s rs, u8 k]) (fun _ _ _ => True) (fun k => i64 (qa5 (fun r => decide (k = r)) rs 0)) := by
 refine UC.of (cf := cf67) (np := 2) (by kernel_rfl) (by kernel_rfl) (fun _ => rfl) (fun _ => rfl) (fun _ => rfl) (fun _ => Stab.true) (fun _ _ => rfl) ((Ev.ge (rs.length + 1)).mono fun n hn k E s _ => ⟨i64 (qa5 (fun r => decide (k = r)) rs 0), s, (s67_eq _ _ _ _ _).trans ?_, rfl⟩)
 unfold s67
 simp only [Option.bind_some, qc8]
 unfold s67_0
 generalize hF : (fun (h5 : AVal → Res) (x4 : AVal) => _) = F
 refine qdO _ F rs.length (fun j L => L (i64 (.ofNat j))) (fun j => some (i64 (qa5 (fun r => decide (k = r)) rs j), s)) (fun j L hj ih => ?_) (fun L => ?_) n 0 (Nat.zero_le _) (by omega)
 ·subst hF
  have hk : rs[j]? = some rs[j] := List.getElem?_eq_getElem hj
  have hld := qfc (c := u8C) (sz := 1) (fun _ => rfl) (qae CP n E) s hk (by omega)
  have hu : (u8C rs[j])[0]?.map AVal.p = some (u8 rs[j]) := rfl
  rw [hu] at hld
  have hdr : rs.drop j = rs[j] :: rs.drop (j + 1) := List.drop_eq_getElem_cons hj
  simp only [of_lt.2 hj, qca hj, hld, qa1 (show j < 9223372036854775807 by omega), qag, qaq, qaD, qaG, decide_true, qaa, cond_true, Option.map_some, Option.bind_some, qab]
  cases hb : decide (k = rs[j]) with
  | true =>
   simp only [cond_true, qa5, hdr, List.findIdx?_cons, hb, if_true, Nat.add_zero]
  | false =>
   simp only [cond_false]
   rw [ih]
   simp only [qa5, hdr, List.findIdx?_cons, hb, if_false, Bool.false_eq_true]
   cases (rs.drop (j + 1)).findIdx? fun r => decide (k = r) with
   | none => rfl
   | some i =>
    simp only [Option.map_some]
    rw [show j + 1 + i = j + (i + 1) by omega]
 ·subst hF
  have h3 : ¬ (Int.ofNat rs.length < Int.ofNat rs.length) := fun h => Nat.lt_irrefl _ (of_lt.1 h)
  simp only [h3, qa5, List.drop_length, List.findIdx?_nil, qag, qaD, qaG, decide_false, qaa, cond_false, Option.map_some, Option.bind_some]
def qdV (rs : List Int) : Int → Bool := fun k => rs.any fun r => decide (k = r)
theorem qkf (rs : List Int) (hl : rs.length ≤ 1000000) : UC 45 (fun k : Int => [u8s rs, u8 k]) (fun _ _ _ => True) (fun k => bl (qdV rs k)) := by
 refine UC.of (cf := cf45) (np := 2) (by kernel_rfl) (by kernel_rfl) (fun _ => rfl) (fun _ => rfl) (fun _ => rfl) (fun _ => Stab.true) (fun _ _ => rfl) ((qo2 rs hl).mono fun n h k E s _ => ⟨bl (qdV rs k), s, (s45_eq _ _ _ _ _).trans ?_, rfl⟩)
 have h' := h k E s trivial
 simp only at h'
 have : (!decide (qa5 (fun r => decide (k = r)) rs 0 < 0)) = qdV rs k := by
  unfold qdV
  have := qiv (fun r => decide (k = r)) rs
  rw [Bool.eq_iff_iff, ← this]
  simp only [Bool.not_eq_true', decide_eq_false_iff_not, Int.not_lt]
 unfold s45
 simp only [h', qgx, this, qag, qgx, Option.map_some, Option.bind_some, qab]
theorem qqj (rs : List Int) (hl : rs.length ≤ 1000000) : UC 44 (fun p : Int × Nat => [u8 p.1, .ptr p.2 0]) (fun p E s => qak E s p.2 = some [u8s rs]) (fun p => bl (qdV rs p.1)) := by
 refine UC.of (cf := cf44) (np := 2) (by kernel_rfl) (by kernel_rfl) (fun _ => rfl) (fun _ => rfl) (fun _ => rfl) (fun p => Stab.at p.2 _) (fun _ _ => rfl) ((qkf rs hl).mono fun n h p E s hc => ⟨bl (qdV rs p.1), s, (s44_eq _ _ _ _ _).trans ?_, rfl⟩)
 have hc' : qak (qae CP n E).E s p.2 = some [u8s rs] := by rw [qaQ]; exact hc
 have h' := fun s => h p.1 E s trivial
 have one : ∀ v : AVal, ldL [v] 0 none = some v := fun _ => rfl
 simp only at h'
 unfold s44
 simp only [ldP hc', one, h', Option.bind_some, qab]
theorem qsk (rs : List Int) (hl : rs.length ≤ 1000000) : Ev fun n => SmH (ι := Nat) (fun l => .func 44 [] [.ptr l 0]) (fun l E s => qak E s l = some [u8s rs] ∧ l < s.next) (qdV rs) n :=
 ((qqj rs hl).and (Ev.ge 1)).mono fun n ⟨h, hn⟩ l E s0 s pre i _ hC hh hp => by
  rw [qg8 CP hn]
  refine h (.ofNat (i + 1), l) E s ?_
  have := qew (E := E) hh (l := l) (fun v hv => by have := hp v hv; have := hC.2; omega)
  rw [this]
  exact hC.1
def qmV (a : Ar) (t : Tm) (rs : List Int) : Tm × List Rw × Int := if qbG a t = 0 then qfX a (qdV rs) 2001 t [] else (.z, [], qbG a t)
theorem qmf (a : Ar) (t : Tm) (rs : List Int) (w : AVal) (hw : qaA w = u8s rs) (hwa : qbg w = true) (hl : rs.length ≤ 1000000) (oa : a.Ok) (ok : t.Ok) (h1 : a.ids.length ≤ 100000) (hs : t.size ≤ 100000) : PC CP 17 [a.v, t.v, w] (qiO (qmV a t rs)) := by
 have x2 : ∀ a b c : AVal, ex (.tuple [a, b, c]) 2 = some c := fun _ _ _ => rfl
 have l30 : ∀ a b c : AVal, qd4 [a, b, c] 0 = some a := fun _ _ _ => rfl
 have l31 : ∀ a b c : AVal, qd4 [a, b, c] 1 = some b := fun _ _ _ => rfl
 have hrc : AVal.cells none (u8s rs) = some [u8s rs] := rfl
 have hra : [u8s rs].all qaK = true := rfl
 unfold qmV
 by_cases hc : qbG a t = 0
 ·rw [if_pos hc]
  refine PC.of2 (cf := cf17) (np := 3) (args' := [a.v, t.v, u8s rs]) (by kernel_rfl) (by kernel_rfl) rfl (by simp only [List.all_cons, qam, hwa]; rfl) (by simp only [List.map_cons, qao, hw]; rfl) (fun lo => qke lo _)
   (((qhJ a t oa ok h1 hs).and (qtY a t ⟨hc, ok⟩ h1 hs (fun l => fun E s h => ⟨Stab.at l _ E s h.1, h.2⟩) (fun _ => rfl) (fun _ => rfl) (fun _ => rfl) (fun _ => rfl) (qsk rs hl))).mono fun n ⟨hlk, hd⟩ E s => ⟨qiO (qfX a (qdV rs) 2001 t []), qaf s (.cells [u8s rs]), (s17_eq _ _ _ _ _ _).trans ?_, qo0 _⟩)
  rw [hc] at hlk
  have hd' : cl (qae CP n E) 41 [a.v, t.v, .func 44 [] [.ptr s.next 0]] (qaf s (.cells [u8s rs])) = some (qiO (qfX a (qdV rs) 2001 t []), qaf s (.cells [u8s rs])) := hd s.next E _ ⟨qaI _ _ _, Nat.lt_succ_self _⟩
  unfold s17
  simp only [qee, qoZ, hlk, hrc, hra, hd', l30, l31, x2, qal, qaZ, qaC, qax, qgE, qag, qbq, decide_true, Bool.not_true, qaa, cond_false, Option.map_some, Option.bind_some, qab, qai, qar, qas, qaS, qba, cnd]
 ·rw [if_neg hc]
  refine PC.of2 (cf := cf17) (np := 3) (args' := [a.v, t.v, u8s rs]) (by kernel_rfl) (by kernel_rfl) rfl (by simp only [List.all_cons, qam, hwa]; rfl) (by simp only [List.map_cons, qao, hw]; rfl) (fun lo => qke lo _)
   ((qhJ a t oa ok h1 hs).mono fun n hlk E s => ⟨.tuple [.agg [u8 0, i64 0, i64 0, i64 0, .sl 0 [] .full], .sl 0 [] .full, i64 (qbG a t)], qaf s (.cells [u8s rs]), (s17_eq _ _ _ _ _ _).trans ?_, rfl⟩)
  unfold s17
  simp only [qee, qoZ, hlk, hrc, hra, hc, zbd, qoY, qvx, qtU, qal, qaZ, qax, qgE, qag, qbq, decide_false, Bool.not_false, qaa, cond_true, Option.map_some, Option.bind_some, qab, qai, qar, qas, qaS, qba, cnd]
end Go.AI.Tryz
namespace Go.AI.Tryz
def rulL : List Int := ruL.map fun j => Int.ofNat (j + 1)
theorem qo3 : PC CP 22 [] (u8s rulL) := by
 let f : Nat → List PVal := fun j => qaY u8C (rulL.take j)
 refine PC.of2 (cf := cf22) (np := 0) (args' := []) (by kernel_rfl) (by kernel_rfl) rfl rfl rfl (fun _ => rfl) ((Ev.ge 23).mono fun n hn E s => ⟨qey f s.ntok 22, qit s 1 22, (s22_eq _ _ _).trans ?_, ?_⟩)
 ·unfold s22 s22_0
  generalize hF : (fun (h4 : AVal → AVal → ASt → Res) (x1 x2 : AVal) (s3 : ASt) => _) = F
  refine qdO _ F 22 (fun j L => L (qey f s.ntok j) (u8 (.ofNat (j + 1))) (qit s 1 j)) (fun j => some (qey f s.ntok 22, qit s 1 22)) (fun j L hj ih => ?_) (fun L => ?_) n 0 (Nat.zero_le _) (by omega)
  ·subst hF
   have hjl : j < rulL.length := hj
   have hje : rulL[j] = Int.ofNat (j + 1) := by
    have h1 : rulL[j]? = some (Int.ofNat (j + 1)) := by
     unfold rulL
     rw [List.getElem?_map, qiH hj]; rfl
    rw [List.getElem?_eq_getElem hjl] at h1
    exact Option.some.inj h1
   have hap := qjU (qae CP n E) (sz := 1) (b := 1) (f := f) (y := .sl 1 (u8C (.ofNat (j + 1))) .full) s j rfl rfl (by omega) (by
    have := qct (c := u8C) hjl
    rw [hje] at this
    exact this)
   have hms : ms 1 [.int .u8 0] [(0, none, .c (u8 (.ofNat (j + 1))))] = some (.sl 1 (u8C (.ofNat (j + 1))) .full) := rfl
   have hw : qa7 .u8 (Int.ofNat (j + 1) + 1) = Int.ofNat (j + 1 + 1) := by
    match j, hj with
    | 0, _ => rfl | 1, _ => rfl | 2, _ => rfl | 3, _ => rfl | 4, _ => rfl | 5, _ => rfl | 6, _ => rfl | 7, _ => rfl | 8, _ => rfl | 9, _ => rfl | 10, _ => rfl
    | 11, _ => rfl | 12, _ => rfl | 13, _ => rfl | 14, _ => rfl | 15, _ => rfl | 16, _ => rfl | 17, _ => rfl | 18, _ => rfl | 19, _ => rfl | 20, _ => rfl | 21, _ => rfl
    | _ + 22, h => exact absurd h (by omega)
   have hle : ¬ ((22 : Int) < Int.ofNat (j + 1)) := by simp only [Int.ofNat_eq_natCast]; omega
   simp only [hle, hms, hap, hw, qag, qds, qaG, decide_false, Bool.not_false, qaa, cond_true, Option.map_some, Option.bind_some, qab]
   exact ih
  ·subst hF
   rfl
 ·rw [show qaA (qey f s.ntok 22) = qbM (qey f s.ntok 22) from rfl, qdf f _ _ rfl]
  rfl
theorem qo4 (x y : List Rw) (hx : x.length ≤ 100000000) (hy : y.length ≤ 100000000) : PC CP 20 [qiJ x, qiJ y] (bl (decide (x = y))) := by
 refine PC.of2 (cf := cf20) (np := 2) (args' := [qiJ x, qiJ y]) (by kernel_rfl) (by kernel_rfl) rfl rfl rfl (fun _ => rfl) ((Ev.ge (x.length + 1)).mono fun n hn E s => ⟨bl (decide (x = y)), s, (s20_eq _ _ _ _ _).trans ?_, rfl⟩)
 unfold s20
 by_cases hlen : x.length = y.length
 ·have e1 : (Int.ofNat x.length = Int.ofNat y.length) := by rw [hlen]
  simp only [e1, qag, qbq, decide_true, Bool.not_true, qaa, cond_false, Option.map_some, Option.bind_some, qc8]
  unfold s20_0
  generalize hF : (fun (h7 : AVal → Res) (x6 : AVal) => _) = F
  have main : ∀ k j, j ≤ x.length → x.length - j < k → lp (fun _ => none) F k (i64 (.ofNat j)) = some (bl (decide (x.drop j = y.drop j)), s) := by
   intro k
   induction k with
   | zero => intro j _ h; omega
   | succ k ih =>
    intro j hj hk
    rw [qbj]
    rcases Nat.lt_or_ge j x.length with h | h
    ·have h' : j < y.length := by omega
     have ih2 := ih (j + 1) (by omega) (by omega)
     clear ih
     generalize lp _ F k = L at ih2 ⊢
     subst hF
     have hx1 := qdP (c := rwC) (sz := 2) (fun _ => rfl) (qae CP n E) s (List.getElem?_eq_getElem h)
     have hy1 := qdP (c := rwC) (sz := 2) (fun _ => rfl) (qae CP n E) s (List.getElem?_eq_getElem h')
     have hq := qq0 true x[j] y[j]
     have hq : eqs [1, 1] true (.agg ((rwC x[j]).map .p)) (.agg ((rwC y[j]).map .p)) = _ := hq
     simp only [of_lt.2 h, qca h, qca h', hx1, hy1, hq, qa1 (show j < 9223372036854775807 by omega), qag, qaD, qaG, decide_true, qaa, cond_true, Option.map_some, Option.bind_some, qab, qc8]
     rw [List.drop_eq_getElem_cons h, List.drop_eq_getElem_cons h']
     cases hb : decide (x[j].1 = y[j].1) && decide (x[j].2 = y[j].2) with
     | true =>
      simp only [Bool.not_true, cond_false]
      rw [ih2]
      simp only [Bool.and_eq_true, decide_eq_true_eq] at hb
      have he : x[j] = y[j] := Prod.ext hb.1 hb.2
      simp only [he, List.cons.injEq, true_and]
     | false =>
      simp only [Bool.not_false, cond_true]
      have hne : ¬ (x[j] = y[j]) := fun h => by rw [h] at hb; simp at hb
      simp only [List.cons.injEq, hne, false_and, decide_false]
    ·have e1 : x.drop j = [] := List.drop_eq_nil_of_le h
     have e2 : y.drop j = [] := List.drop_eq_nil_of_le (by omega)
     generalize lp _ F k = L
     subst hF
     have h3 : ¬ (Int.ofNat j < Int.ofNat x.length) := fun hh => by have := of_lt.1 hh; omega
     simp only [h3, e1, e2, qag, qaD, qaG, decide_true, decide_false, qaa, cond_false, Option.map_some, Option.bind_some, qc8]
  exact main n 0 (Nat.zero_le _) (by omega)
 ·have e1 : ¬ (Int.ofNat x.length = Int.ofNat y.length) := fun h => hlen (Int.ofNat.inj h)
  have e2 : ¬ (x = y) := fun h => hlen (by rw [h])
  simp only [e1, e2, qag, qbq, decide_false, Bool.not_false, qaa, cond_true, Option.map_some, Option.bind_some, qc8]
end Go.AI.Tryz
namespace Go.AI.Tryz
theorem qiP (sm : Int → Bool) (x : Sc) (t : Tm) (b : Int) : qcA sm x t b = (qcA qcV x t b).filter fun o => sm o.1 := by
 unfold qcA
 rw [List.filter_filterMap]
 congr 1
 funext i
 simp only [qcV, if_true]
 cases h : qbH i x t with
 | none => simp
 | some u =>
  simp only [Option.map_some, Option.filter]
theorem qex (sm : Int → Bool) : ∀ (l : List (Sc × Tm)) (b : Int), qeW sm b l = (qeW qcV b l).filter fun o => sm o.1
 | [], b => rfl
 | p :: r, b => by
  simp only [qeW, List.filter_append]
  rw [qiP, qex sm r]
theorem qqk {o : Of} {l : List (Sc × Tm)} {b : Int} {sm : Int → Bool} (h : o ∈ qeW sm b l) : qdV rulL o.1 = true := by
 obtain ⟨j, p, i, _, _, hi, h1, _⟩ := qfY h
 unfold qdV
 rw [List.any_eq_true]
 refine ⟨o.1, ?_, by simp⟩
 rw [h1]
 unfold rulL
 rw [List.mem_map]
 exact ⟨i, List.mem_of_getElem? (qiH hi), rfl⟩
theorem qql (l : List (Sc × Tm)) (b : Int) : qeW (qdV rulL) b l = qeW qcV b l := by
 rw [qex]
 exact List.filter_eq_self.2 fun o ho => qqk ho
theorem qo5 (l : List (Sc × Tm)) (b : Int) : qeW (qdV []) b l = [] := by
 rw [qex]
 exact List.filter_eq_nil_iff.2 fun o ho => by simp [qdV]
def lt1 (o p : Of) : Prop := o.2.1 < p.2.1 ∨ o.2.1 = p.2.1 ∧ o.1 < p.1
theorem qiQ (sm : Int → Bool) (x : Sc) (t : Tm) (b : Int) : (qcA sm x t b).Pairwise lt1 := by
 unfold qcA
 rw [List.pairwise_filterMap]
 have : ruL.Pairwise (· < ·) := by decide
 refine this.imp fun {i j} hij o ho p hp => ?_
 split at ho
 ·split at hp
  ·rw [Option.map_eq_some_iff] at ho hp
   obtain ⟨u, _, rfl⟩ := ho
   obtain ⟨w, _, rfl⟩ := hp
   exact .inr ⟨rfl, by simp only [Int.ofNat_eq_natCast]; omega⟩
  ·cases hp
 ·cases ho
theorem qgP (sm : Int → Bool) : ∀ (l : List (Sc × Tm)) (b : Int), (qeW sm b l).Pairwise lt1
 | [], b => List.Pairwise.nil
 | p :: r, b => by
  simp only [qeW]
  rw [List.pairwise_append]
  refine ⟨qiQ sm _ _ b, qgP sm r (b + 1), fun o ho q hq => .inl ?_⟩
  have h1 : o.2.1 = b := by
   unfold qcA at ho
   rw [List.mem_filterMap] at ho
   obtain ⟨i, _, h⟩ := ho
   split at h
   ·rw [Option.map_eq_some_iff] at h
    obtain ⟨u, _, rfl⟩ := h
    rfl
   ·cases h
  obtain ⟨j, _, _, _, h2, _⟩ := qfY hq
  rw [h1, h2]
  simp only [Int.ofNat_eq_natCast]; omega
inductive St (a : Ar) : Tm → List Rw → Tm → Prop where
 | nil (t) : St a t [] t
 | cons {t u : Tm} {o : Of} {r : List Of} {L : List Rw} (h : qeW qcV 0 (qbl t (qaH a)) = o :: r) (k : St a (qez o.2.2 o.2.1 t) L u) : St a t ((o.1, o.2.1) :: L) u
theorem qo6 {a : Ar} : ∀ {m : Nat} {t : Tm} {log : List Rw} {r : Tm × List Rw × Int}, qfX a qcV m t log = r → r.2.2 = 0 ∧ (∃ L, r.2.1 = log ++ L ∧ St a t L r.1 ∧ L.length < m ∧ (log.length ≤ 2000 → log.length + L.length ≤ 2000) ∧ qeW qcV 0 (qbl r.1 (qaH a)) = []) ∨ r = (.z, [], 5)
 | 0, t, log, r, h => .inr (by rw [← h]; rfl)
 | m + 1, t, log, r, h => by
  rw [qdU] at h
  cases ho : qeW qcV 0 (qbl t (qaH a)) with
  | nil =>
   rw [ho] at h
   subst h
   exact .inl ⟨rfl, [], (List.append_nil _).symm, .nil _, Nat.zero_lt_succ _, fun h => h, ho⟩
  | cons o l =>
   rw [ho] at h
   unfold qsD at h
   simp only at h
   split at h
   ·exact .inr h.symm
   ·rename_i h20
    rcases qo6 h with ⟨h1, L, h2, h3, h4, h5, h6⟩ | h
    ·refine .inl ⟨h1, (o.1, o.2.1) :: L, by rw [h2, List.append_assoc]; rfl, .cons ho h3, by simp only [List.length_cons]; omega, fun hl => ?_, h6⟩
     have := h5 (by simp only [List.length_append, List.length_cons, List.length_nil]; omega)
     simp only [List.length_append, List.length_cons, List.length_nil] at this ⊢
     omega
    ·exact .inr h
theorem qmg {a : Ar} (h1 : a.ids.length ≤ 100000) : ∀ {L : List Rw} {t u : Tm}, St a t L u → Right a t → t.size ≤ 100000 → Right a u ∧ u.size ≤ t.size
 | [], t, u, h, hr, hs => by cases h; exact ⟨hr, Nat.le_refl _⟩
 | w :: L, t, u, h, hr, hs => by
  cases h with
  | cons ho k =>
   rename_i o r
   have := qo1 (o := o) (sm := qcV) hr h1 hs (by rw [ho]; exact List.mem_cons_self ..)
   have h2 := qmg h1 k this.1 (by omega)
   exact ⟨h2.1, by omega⟩
theorem qhN (a : Ar) : ∀ (m : Nat) (t : Tm) (log : List Rw), qfX a (qdV rulL) m t log = qfX a qcV m t log
 | 0, _, _ => rfl
 | m + 1, t, log => by
  rw [qdU, qdU, qql]
  cases qeW qcV 0 (qbl t (qaH a)) with
  | nil => rfl
  | cons o r =>
   simp only [qsD]
   rw [qhN a m]
theorem qsl (a : Ar) (m : Nat) (t : Tm) (log : List Rw) : qfX a (qdV []) (m + 1) t log = (t, log, 0) := by
 rw [qdU, qo5]; rfl
end Go.AI.Tryz
namespace Go.AI.Tryz
abbrev qdj (l : List Of) : List Rw := l.map fun o => (o.1, o.2.1)
def qc4 (a : Ar) (t : Tm) : List Rw × Bool := if qjX a t = true ∧ qbG a t = 0 then (qdj (qcG a t), decide (0 < (qcG a t).length)) else ([], false)
theorem qo7 {c : Tm → Nat} {most : Nat} : ∀ (ks : List Tm) (a : Nat), a ≤ qkh c most a ks
 | [], a => Nat.le_refl _
 | t :: r, a => by
  simp only [qkh]
  split
  ·have := qo7 (c := c) (most := most) r (a + c t); omega
  ·exact Nat.le_refl _
theorem qgQ (most : Nat) : ∀ (d : Nat) (t : Tm), 1 ≤ qgy most d t ∧ (qgy most d t ≤ most → qgy most d t = t.size)
 | 0, t => ⟨by simp only [qgy]; omega, fun h => by simp only [qgy] at h; omega⟩
 | d + 1, t => by
  simp only [qgy]
  refine ⟨qo7 t.ks 1, fun h => ?_⟩
  rw [qjT t.ks 1 (fun u _ => (qgQ most d u).2) (fun u _ => (qgQ most d u).1) h, Tm.size_ks t]
theorem qhO {a : Ar} {t : Tm} (h : qjX a t = true) : a.ids.length ≤ 20 ∧ (∀ t ∈ a.ids, t.ps.length ≤ 20) ∧ t.size ≤ 700 := by
 simp only [qjX, Bool.and_eq_true, qmG, decide_eq_true_eq, List.all_eq_true, qkO] at h
 refine ⟨h.1.1.1, h.1.1.2, ?_⟩
 have := (qgQ 700 200 t).2 h.1.2
 omega
theorem qo8 (a : Ar) (t : Tm) (oa : a.Ok) (ok : t.Ok) : PC CP 21 [a.v, t.v] (.tuple [qiJ (qc4 a t).1, bl (qc4 a t).2]) := by
 unfold qc4
 cases hth : qjX a t with
 | false =>
  have hthc := qqK a t oa ok
  rw [hth] at hthc
  rw [if_neg (by simp)]
  refine PC.of2 (cf := cf21) (np := 2) (args' := [a.v, t.v]) (by kernel_rfl) (by kernel_rfl) rfl (by simp only [List.all_cons, qam]; rfl) (by simp only [List.map_cons, qao]; rfl) (fun _ => rfl)
   (hthc.mono fun n h E s => ⟨.tuple [.sl 0 [] .full, bl false], s, (s21_eq _ _ _ _ _).trans ?_, rfl⟩)
  unfold s21 s21_1
  simp only [qee, qoZ, h, qal, qaZ, Bool.not_false, qaa, cond_true, qav, Option.bind_some, qab, qau]
 | true =>
  obtain ⟨h1, h2, h3⟩ := qhO hth
  have hthc := qqK a t oa ok
  rw [hth] at hthc
  have hA := qn8 a (by omega) (fun t ht => by have := h2 t ht; omega)
  have hT := qqH t (by omega)
  have hC := qoh a t oa ok (by omega) (by omega)
  by_cases hc : qbG a t = 0
  ·rw [if_pos ⟨rfl, hc⟩]
   have hO := qmP a t oa ok (by omega) (by omega)
   unfold qiK at hO
   rw [if_pos hc] at hO
   rw [hc] at hC
   refine PC.of2 (cf := cf21) (np := 2) (args' := [a.v, t.v]) (by kernel_rfl) (by kernel_rfl) rfl (by simp only [List.all_cons, qam]; rfl) (by simp only [List.map_cons, qao]; rfl) (fun _ => rfl)
    ((hthc.and ((hA.and hT).and (hC.and hO))).mono fun n ⟨h, ⟨hA, hT⟩, hC, hO⟩ E s => ⟨.tuple [qiJ (qdj (qcG a t)), bl (decide (0 < (qcG a t).length))], s, (s21_eq _ _ _ _ _).trans ?_, rfl⟩)
   have hg : ((0 : Int) < Int.ofNat (qdj (qcG a t)).length) = (0 < (qcG a t).length) := by
    rw [List.length_map]; simp only [Int.ofNat_eq_natCast, eq_iff_iff]; omega
   unfold s21 s21_1 s21_0
   simp only [qee, qoZ, h, hA, hT, hC, hO, hg, qa4, qal, qaZ, qag, qaq, qbq, qa4, decide_true, Bool.not_true, qaa, cond_true, cond_false, qav, Option.map_some, Option.bind_some, qab, qai, qar, qas, qau, qc8]
  ·rw [if_neg (fun h => hc h.2)]
   refine PC.of2 (cf := cf21) (np := 2) (args' := [a.v, t.v]) (by kernel_rfl) (by kernel_rfl) rfl (by simp only [List.all_cons, qam]; rfl) (by simp only [List.map_cons, qao]; rfl) (fun _ => rfl)
    ((hthc.and ((hA.and hT).and hC)).mono fun n ⟨h, ⟨hA, hT⟩, hC⟩ E s => ⟨.tuple [.sl 0 [] .full, bl false], s, (s21_eq _ _ _ _ _).trans ?_, rfl⟩)
   unfold s21 s21_1
   simp only [qee, qoZ, h, hA, hT, hC, hc, qal, qaZ, qag, qbq, decide_false, Bool.not_true, Bool.not_false, qaa, cond_true, cond_false, qav, Option.map_some, Option.bind_some, qab, qau]
end Go.AI.Tryz
namespace Go.AI.Tryz
structure Lw (n : Nat) (e : Env) : Prop where
 o : ∀ f args s, f ≠ 12 → cl e f args s = cl (qae CP n []) f args s
 a : ∀ s, cl e 12 [] s = some (bl true, s)
theorem Lw.c {n : Nat} {e : Env} (h : Lw n e) {f : Nat} {args : List AVal} {r : AVal} (hf : f ≠ 12) (hc : ∀ E s, cl (qae CP n E) f args s = some (r, s)) : ∀ s, cl e f args s = some (r, s) := fun s => (h.o f args s hf).trans (hc [] s)
abbrev u16 (k : Nat) : AVal := .p (.int .u16 (.ofNat k))
end Go.AI.Tryz
namespace Go.AI
section
variable {P : Program}
theorem HasT.inv_int {n t pcs k} (h : HasT P n t pcs) (hu : P.underlying t = some (.int k)) : ∃ a, pcs = [.int k a] ∧ (Lit.int k a).wf = true := by
 cases h with
 | int ht a hw => rw [hu] at ht; cases ht; exact ⟨a, rfl, hw⟩
 | bool ht b => rw [hu] at ht; cases ht
 | str ht b _ => rw [hu] at ht; cases ht
 | sl ht _ _ _ => rw [hu] at ht; cases ht
 | struct ht _ _ _ => rw [hu] at ht; cases ht
theorem HasT.inv_bool {n t pcs} (h : HasT P n t pcs) (hu : P.underlying t = some .bool) : ∃ b, pcs = [.bool b] := by
 cases h with
 | bool ht b => exact ⟨b, rfl⟩
 | int ht a hw => rw [hu] at ht; cases ht
 | str ht b _ => rw [hu] at ht; cases ht
 | sl ht _ _ _ => rw [hu] at ht; cases ht
 | struct ht _ _ _ => rw [hu] at ht; cases ht
theorem HasT.inv_sl {n t pcs e} (h : HasT P n t pcs) (hu : P.underlying t = some (.slice e)) : ∃ (m : Nat) (ls : List (List PVal)), n = m + 1 ∧ pcs = [.sl ls.length ls.flatten] ∧ ls.length ≤ maxLen ∧ ∀ l ∈ ls, HasT P m e l := by
 cases h with
 | sl ht ls hl h => rw [hu] at ht; cases ht; exact ⟨_, ls, rfl, rfl, hl, h⟩
 | bool ht b => rw [hu] at ht; cases ht
 | int ht a hw => rw [hu] at ht; cases ht
 | str ht b _ => rw [hu] at ht; cases ht
 | struct ht _ _ _ => rw [hu] at ht; cases ht
theorem HasT.inv_struct {n t pcs fs} (h : HasT P n t pcs) (hu : P.underlying t = some (.struct fs)) : ∃ (m : Nat) (ls : List (List PVal)), n = m + 1 ∧ pcs = ls.flatten ∧ ls.length = fs.size ∧ ∀ (i : Nat) l f, ls[i]? = some l → fs[i]? = some f → HasT P m f.type l := by
 cases h with
 | struct ht ls hl h => rw [hu] at ht; cases ht; exact ⟨_, ls, rfl, rfl, hl, h⟩
 | bool ht b => rw [hu] at ht; cases ht
 | int ht a hw => rw [hu] at ht; cases ht
 | str ht b _ => rw [hu] at ht; cases ht
 | sl ht _ _ _ => rw [hu] at ht; cases ht
theorem qsm {w : World} {r : Reach} {base : Nat} {t : TypeId} {fs : Array Field} {v : Value} (hu : P.underlying t = some (.struct fs)) (ho : Value.okWide P w r base t v) : ∃ cs, v = .agg cs := by
 unfold Value.okWide at ho
 rw [hu] at ho
 obtain ⟨cs, h, _⟩ := ho
 exact ⟨cs, h⟩
theorem qiR {α : Type} {c : α → List PVal} {Q : α → Prop} : ∀ (ls : List (List PVal)), (∀ l ∈ ls, ∃ a, c a = l ∧ Q a) → ∃ zs : List α, zs.length = ls.length ∧ qaY c zs = ls.flatten ∧ ∀ a ∈ zs, Q a
 | [], _ => ⟨[], rfl, rfl, fun a h => by cases h⟩
 | l :: ls, h => by
  obtain ⟨a, ha, hq⟩ := h l (List.mem_cons_self ..)
  obtain ⟨zs, h1, h2, h3⟩ := qiR ls fun m hm => h m (List.mem_cons_of_mem _ hm)
  refine ⟨a :: zs, by simp [h1], by simp only [qaY, List.flatten_cons, ha, h2], fun b hb => ?_⟩
  rcases List.mem_cons.1 hb with rfl | hb
  ·exact hq
  ·exact h3 b hb
theorem quv {a : Int} (h : (Lit.int .i64 a).wf = true) : -9223372036854775808 ≤ a ∧ a ≤ 9223372036854775807 := by
 simp [Lit.wf, IntKind.min, IntKind.max, IntKind.signed, IntKind.bits] at h
 omega
theorem wf8 {a : Int} (h : (Lit.int .u8 a).wf = true) : 0 ≤ a ∧ a < 256 := by
 simp [Lit.wf, IntKind.min, IntKind.max, IntKind.signed, IntKind.bits] at h
 omega
end
end Go.AI
namespace Go.AI.Tryz
open Go.Proofs
theorem qmW (ks : List Tm) : qaY Tm.cells ks = Tm.cellsL ks := by
 induction ks with
 | nil => rfl
 | cons a r ih => simp only [qaY, Tm.cellsL, ih]
theorem qvk {α : Type} {l : List α} (h : l.length = 5) : ∃ a b c d e, l = [a, b, c, d, e] := by
 match l, h with
 | [a, b, c, d, e], _ => exact ⟨a, b, c, d, e, rfl⟩
theorem qvl {α : Type} {l : List α} (h : l.length = 3) : ∃ a b c, l = [a, b, c] := by
 match l, h with
 | [a, b, c], _ => exact ⟨a, b, c, rfl⟩
theorem qkk {α : Type} {l : List α} (h : l.length = 2) : ∃ a b, l = [a, b] := by
 match l, h with
 | [a, b], _ => exact ⟨a, b, rfl⟩
theorem has_tm : ∀ (n : Nat) (pcs : List PVal), HasT Go.Proofs.Tryz.prog n 29 pcs → ∃ t : Tm, t.cells = pcs ∧ t.Ok
 | 0, pcs, h => by cases h
 | n + 1, pcs, h => by
  obtain ⟨m, ls, hm, rfl, hl, hf⟩ := h.inv_struct Go.Proofs.Tryz.underlying29
  cases hm
  obtain ⟨a, b, c, d, e, rfl⟩ := qvk hl
  obtain ⟨k, rfl, wk⟩ := (hf 0 a _ rfl rfl).inv_int Go.Proofs.Tryz.underlying5
  obtain ⟨x, rfl, wx⟩ := (hf 1 b _ rfl rfl).inv_int Go.Proofs.Tryz.underlying3
  obtain ⟨y, rfl, wy⟩ := (hf 2 c _ rfl rfl).inv_int Go.Proofs.Tryz.underlying3
  obtain ⟨z, rfl, wz⟩ := (hf 3 d _ rfl rfl).inv_int Go.Proofs.Tryz.underlying3
  obtain ⟨m, rs, hm, rfl, hr, he⟩ := (hf 4 e _ rfl rfl).inv_sl Go.Proofs.Tryz.underlying27
  subst hm
  obtain ⟨ks, h1, h2, h3⟩ := qiR (c := Tm.cells) (Q := Tm.Ok) rs fun l hl => has_tm m l (he l hl)
  refine ⟨.mk k x y z ks, ?_, .mk (wf8 wk) (quv wx) (quv wy) (quv wz) (by rw [h1]; exact hr) h3⟩
  rw [qmW] at h2
  simp only [Tm.cells, h1, h2, List.flatten_cons, List.flatten_nil, List.cons_append, List.nil_append]
theorem qo9 {n : Nat} {pcs : List PVal} (h : HasT Go.Proofs.Tryz.prog n 24 pcs) : ∃ b : Bs, b.cells = pcs ∧ b.Ok := by
 obtain ⟨m, ls, rfl, rfl, hl, hf⟩ := h.inv_struct Go.Proofs.Tryz.underlying24
 obtain ⟨a, b, rfl⟩ := qkk hl
 obtain ⟨c, rfl⟩ := (hf 0 a _ rfl rfl).inv_bool Go.Proofs.Tryz.underlying4
 obtain ⟨x, rfl, wx⟩ := (hf 1 b _ rfl rfl).inv_int Go.Proofs.Tryz.underlying3
 exact ⟨⟨c, x⟩, rfl, quv wx⟩
theorem qtZ {n : Nat} {pcs : List PVal} (h : HasT Go.Proofs.Tryz.prog n 79 pcs) : ∃ t : Ty, t.cells = pcs ∧ t.Ok := by
 obtain ⟨m, ls, rfl, rfl, hl, hf⟩ := h.inv_struct Go.Proofs.Tryz.underlying79
 obtain ⟨a, b, rfl⟩ := qkk hl
 obtain ⟨m, rs, rfl, rfl, hr, he⟩ := (hf 0 a _ rfl rfl).inv_sl Go.Proofs.Tryz.underlying77
 obtain ⟨ps, h1, h2, h3⟩ := qiR (c := Bs.cells) (Q := Bs.Ok) rs fun l hl => qo9 (he l hl)
 obtain ⟨r, hrc, hro⟩ := qo9 (hf 1 b _ rfl rfl)
 refine ⟨⟨ps, r⟩, ?_, by show ps.length ≤ _; rw [h1]; exact hr, h3, hro⟩
 subst hrc
 show [PVal.sl ps.length (qaY Bs.cells ps), .bool r.cell, .int .i64 r.n] = _
 rw [h1, h2]
 rfl
theorem has_ar {n : Nat} {pcs : List PVal} (h : HasT Go.Proofs.Tryz.prog n 26 pcs) : ∃ a : Ar, a.cells = pcs ∧ a.Ok := by
 obtain ⟨m, ls, rfl, rfl, hl, hf⟩ := h.inv_struct Go.Proofs.Tryz.underlying26
 obtain ⟨a, b, c, rfl⟩ := qvl hl
 obtain ⟨m, rs, rfl, rfl, hr, he⟩ := (hf 0 a _ rfl rfl).inv_sl Go.Proofs.Tryz.underlying22
 obtain ⟨ids, h1, h2, h3⟩ := qiR (c := Ty.cells) (Q := Ty.Ok) rs fun l hl => qtZ (he l hl)
 obtain ⟨r, hrc, hro⟩ := qo9 (hf 1 b _ rfl rfl)
 obtain ⟨j, rfl⟩ := (hf 2 c _ rfl rfl).inv_bool Go.Proofs.Tryz.underlying4
 refine ⟨⟨ids, r, j⟩, ?_, by show ids.length ≤ _; rw [h1]; exact hr, h3, hro⟩
 subst hrc
 show [PVal.sl ids.length (qaY Ty.cells ids), .bool r.cell, .int .i64 r.n, .bool j] = _
 rw [h1, h2]
 rfl
theorem qsn {P : Program} {w : World} {n : Nat} {t : TypeId} {cs : Array Value} {pcs : List PVal} (h : qmC P w n t cs.toList pcs) : VR G00 w (.agg (pcs.map .p)) (.agg cs) := by
 obtain ⟨_, h1, h2, h3⟩ := h
 refine .agg _ _ (by rw [List.length_map, h1, Array.length_toList]) (fun v hv => h2 v (by simpa using hv)) fun i c v hc hv => ?_
 rw [List.getElem?_map, Option.map_eq_some_iff] at hc
 obtain ⟨p, hp, rfl⟩ := hc
 exact .p p v ((h3 i p v hp (by rw [Array.getElem?_toList]; exact hv)).mono fun ad u hu _ => ⟨hu, trivial⟩)
def qpa : List TypeId := [3, 4, 5, 22, 24, 26, 27, 29, 77, 79]
theorem m26 : 26 ∈ qpa := by simp [qpa]
theorem m29 : 29 ∈ qpa := by simp [qpa]
theorem lawTs_ok : qkH Go.Proofs.Tryz.prog qpa = true := by kernel_rfl
theorem arg_told {P : Program} {ts : List TypeId} (hok : qkH P ts = true) {t : TypeId} {fs : Array Field} (ht : t ∈ ts) (hu : P.underlying t = some (.struct fs)) {H : Type} {enc : TypeId × Value → H} {w : World} {base base' : Nat} {spare : Nat → Bool} {held : Bool} {r : Reach} {v : Value} {d : DataW H} {ps : List MemPlace} (ho : Value.okWide P w r base t v) (h : DataW.Trod enc P w base' spare held t v d ps) :
  ∃ n pcs, HasT P n t pcs ∧ VR G00 w (.agg (pcs.map .p)) v := by
 obtain ⟨cs, rfl⟩ := qsm hu ho
 obtain ⟨fuel, h⟩ := h
 obtain ⟨pcs, hp⟩ := qmD hok fuel t _ _ ht h
 exact ⟨fuel, pcs, hp.1, qsn hp⟩
end Go.AI.Tryz
namespace Go.AI.Tryz
noncomputable def qvy (e : Env) (n : Nat) (x9 : AVal) (s8 : ASt) (h15 : AVal → Res) (x14 : AVal) : Res := jn (s4_0 e n s8 x14 h15) fun j20 =>
 qac (iaV 2 x9 x14) fun q21 o22 =>
 (ldH e s8 (.elem q21 (o22 + 1)) none).bind fun x23 =>
 (bn .sub x14 (i64 1)).bind fun x24 =>
 qac (iaV 2 x9 x24) fun q25 o26 =>
 (ldH e s8 (.elem q25 (o26 + 1)) none).bind fun x27 =>
 (bn .lss x23 x27).bind fun x28 =>
 qad x28 (j20 (bl true))
 (qac (iaV 2 x9 x14) fun q29 o30 =>
 (ldH e s8 (.elem q29 (o30 + 1)) none).bind fun x31 =>
 (bn .sub x14 (i64 1)).bind fun x32 =>
 qac (iaV 2 x9 x32) fun q33 o34 =>
 (ldH e s8 (.elem q33 (o34 + 1)) none).bind fun x35 =>
 (bn .eql x31 x35).bind fun x36 =>
 qad x36 (qac (iaV 2 x9 x14) fun q37 o38 =>
 (ldH e s8 (.elem q37 o38) none).bind fun x39 =>
 (bn .sub x14 (i64 1)).bind fun x40 =>
 qac (iaV 2 x9 x40) fun q41 o42 =>
 (ldH e s8 (.elem q41 o42) none).bind fun x43 =>
 (bn .leq x39 x43).bind fun x44 =>
 j20 x44)
 (j20 (bl false)))
noncomputable def qvm (e : Env) (G : AVal → AVal → ASt → AVal → AVal → List AVal → List AVal → AVal → AVal → AVal → List AVal → List AVal → AVal → Res) (x9 : AVal) (s8 : ASt) (c3 c4 : List AVal) : Res := (ldL c3 0 (some 4)).bind fun x45 =>
 qac (cl e 14 [x45] s8) fun x46 s47 =>
 (ldL c4 0 (some 5)).bind fun x48 =>
 qac (cl e 15 [x48] s47) fun x49 s50 =>
 qac (cl e 13 [x46, x49] s50) fun x51 s52 =>
 (ex x51 0).bind fun x53 =>
 (ex x51 1).bind fun x54 =>
 (ex x51 2).bind fun x55 =>
 (AVal.cells (some 5) x53).bind fun c56 =>
 (over [(u8 0), (i64 0), (i64 0), (i64 0), (.sl 0 [] .full)] 0 c56).bind fun c57 =>
 (ldL c3 0 (some 4)).bind fun x58 =>
 qac (cl e 14 [x58] s52) fun x59 s60 =>
 (ldL c4 0 (some 5)).bind fun x61 =>
 qac (cl e 15 [x61] s60) fun x62 s63 =>
 qac (cl e 22 [] s63) fun x64 s65 =>
 qac (cl e 17 [x59, x62, x64] s65) fun x66 s67 =>
 (ex x66 0).bind fun x68 =>
 (ex x66 1).bind fun x69 =>
 (ex x66 2).bind fun x70 =>
 (AVal.cells (some 5) x68).bind fun c71 =>
 (over [(u8 0), (i64 0), (i64 0), (i64 0), (.sl 0 [] .full)] 0 c71).bind fun c72 =>
 (ldL c3 0 (some 4)).bind fun x73 =>
 qac (cl e 14 [x73] s67) fun x74 s75 =>
 (ldL c4 0 (some 5)).bind fun x76 =>
 qac (cl e 15 [x76] s75) fun x77 s78 =>
 qac (cl e 17 [x74, x77, (.sl 0 [] .full)] s78) fun x79 s80 =>
 (ex x79 0).bind fun x81 =>
 (ex x79 1).bind fun x82 =>
 (ex x79 2).bind fun x83 =>
 (AVal.cells (some 5) x81).bind fun c84 =>
 (over [(u8 0), (i64 0), (i64 0), (i64 0), (.sl 0 [] .full)] 0 c84).bind fun c85 =>
 jn (G x55 x70 s80 x54 x9 c57 c72 x69 x83 x82 c85 c4) fun j121 =>
 (bn .neq x55 (i64 0)).bind fun x122 =>
 qad x122 (j121 (bl true))
 ((bn .neq x70 (i64 0)).bind fun x123 =>
 j121 x123)
theorem s4_4_split (e : Env) (n : Nat) (x9 : AVal) (s8 : ASt) (c3 c4 : List AVal) : s4_4 e n x9 s8 c3 c4 = lp (fun _ => none) (fun h15 x14 => (ln false x9).bind fun x16 => (bn .lss x14 x16).bind fun x17 => qad x17 (qvy e n x9 s8 h15 x14) (qvm e (s4_3 e n) x9 s8 c3 c4)) n := rfl
theorem qso (a b c : AVal) : qd4 [a, b, c] 0 = some a := rfl
theorem qsp (a b c : AVal) : qd4 [a, b, c] 1 = some b := rfl
theorem qsq (a b c : AVal) : qd4 [a, b, c] 2 = some c := rfl
theorem qt0 {e : Env} (G : AVal → AVal → ASt → AVal → AVal → List AVal → List AVal → AVal → AVal → AVal → List AVal → List AVal → AVal → Res) (x9 : AVal) (s : ASt) {a : Ar} {t u v : Tm} {lg lg2 lg3 rs : AVal} {er er2 er3 : Int} (hA : ∀ s, cl e 14 [a.v] s = some (a.v, s)) (hT : ∀ s, cl e 15 [t.v] s = some (t.v, s))
  (hall : ∀ s, cl e 13 [a.v, t.v] s = some (.tuple [u.v, lg, i64 er], s)) (h22 : ∀ s, cl e 22 [] s = some (rs, s)) (h17 : ∀ s, cl e 17 [a.v, t.v, rs] s = some (.tuple [v.v, lg2, i64 er2], s)) {w : Tm} (h0 : ∀ s, cl e 17 [a.v, t.v, .sl 0 [] .full] s = some (.tuple [w.v, lg3, i64 er3], s)) :
  qvm e G x9 s [.p (.sl a.ids.length (qaY Ty.cells a.ids)), bl a.root.cell, i64 a.root.n, bl a.jumps] t.c = (if er = 0 then G (i64 er) (i64 er2) s lg x9 u.c v.c lg2 (i64 er3) lg3 w.c t.c (bl (!decide (er2 = 0))) else G (i64 er) (i64 er2) s lg x9 u.c v.c lg2 (i64 er3) lg3 w.c t.c (bl true)) := by
 unfold qvm
 simp only [qoZ, hA, hT, hall, h22, h17, h0, qso, qsp, qsq, qal, qaZ, qaC, qag, qbq, qaa, qav, Option.map_some, Option.bind_some, qab, qai]
 by_cases h : er = 0
 ·simp only [h, if_true, decide_true, Bool.not_true, cond_false]
 ·simp only [h, if_false, decide_false, Bool.not_false, cond_true]
end Go.AI.Tryz
namespace Go.AI.Tryz
theorem one_ev (a : Ar) (t : Tm) (oa : a.Ok) (ok : t.Ok) : Ev fun n => ∀ e, Lw n e → ∃ s', s4 e n a.v t.v s00 = some (bl true, s') := by
 have hoff := qo8 a t oa ok
 by_cases his : (qc4 a t).2 = true
 ·have hcond : qjX a t = true ∧ qbG a t = 0 := by
   unfold qc4 at his
   split at his
   ·assumption
   ·cases his
  have hT : qc4 a t = (qdj (qcG a t), decide (0 < (qcG a t).length)) := by unfold qc4; rw [if_pos hcond]
  rw [hT] at hoff his
  have hpos : 0 < (qcG a t).length := by simpa using his
  obtain ⟨h1, h2, h3⟩ := qhO hcond.1
  let l := qcG a t
  have hlen : (qdj l).length = l.length := List.length_map _
  have hsort : l.Pairwise lt1 := qgP qcV _ 0
  have hA := qn8 a (by omega) (fun t ht => by have := h2 t ht; omega)
  have hall := qsj a t oa ok (by omega) (by omega)
  have honly := qmf a t rulL (u8s rulL) rfl rfl (by decide) oa ok (by omega) (by omega)
  have hnone := qmf a t [] (.sl 0 [] .full) rfl rfl (by decide) oa ok (by omega) (by omega)
  have e2 : qmV a t rulL = qsE a t := by unfold qmV qsE; rw [qhN]
  have e3 : qmV a t [] = (t, [], 0) := by unfold qmV; rw [if_pos hcond.2, qsl]
  have e1 : qsE a t = qfX a qcV 2001 t [] := by unfold qsE; rw [if_pos hcond.2]
  rw [e2] at honly
  rw [e3] at hnone
  have hbig : l.length ≤ 100000000 := by
   have hnd := qiI hcond.2 ok (by omega) (by omega)
   have hL : l.length ≤ 22 * (qbl t (qaH a)).length := by
    show (qeW qcV 0 (qbl t (qaH a))).length ≤ _
    generalize qbl t (qaH a) = ns
    generalize (0 : Int) = b
    induction ns generalizing b with
    | nil => exact Nat.le_refl _
    | cons p r ih =>
     simp only [qeW, List.length_append, List.length_cons]
     have h22 : (qcA qcV p.1 p.2 b).length ≤ 22 := by
      unfold qcA
      exact Nat.le_trans (List.length_filterMap_le _ _) (by decide)
     have := ih (b + 1)
     omega
   rw [qcU] at hL
   omega
  have hcase := qo6 (a := a) (m := 2001) (t := t) (log := []) rfl
  generalize hR : qfX a qcV 2001 t [] = R at hcase e1
  rw [e1] at hall honly
  obtain ⟨u, lg, er⟩ := R
  have hfin : Ev fun n => ∀ e, Lw n e → ∀ s, ∃ s', s4_3 e n (i64 er) (i64 er) s (qiJ lg) (qiJ (qdj l)) u.c u.c (qiJ lg) (i64 0) (.p (.sl 0 [])) t.c t.c (bl (!decide (er = 0))) = some (bl true, s') := by
   rcases hcase with ⟨he, L, hL, hst, hlt, hle, hend⟩ | hlim
   ·simp only at he hL hst hend
    rw [List.nil_append] at hL
    subst he hL
    have hl0 : lg.length ≤ 2000 := by have := hle (Nat.zero_le _); simpa using this
    obtain ⟨o, r, hor⟩ : ∃ o r, l = o :: r := by
     cases hl : l with
     | nil => have hp : 0 < l.length := hpos; rw [hl] at hp; exact absurd hp (Nat.lt_irrefl _)
     | cons o r => exact ⟨o, r, rfl⟩
    have hlg : ∃ lg', lg = (o.1, o.2.1) :: lg' := by
     cases hst with
     | nil =>
      have : l = [] := hend
      rw [hor] at this; cases this
     | cons ho k =>
      have : l = _ := ho
      rw [hor] at this
      simp only [List.cons.injEq] at this
      exact ⟨_, by rw [this.1]⟩
    obtain ⟨lg', rfl⟩ := hlg
    have hur := qmg (by omega) hst ⟨hcond.2, ok⟩ (by omega)
    refine ((qqG u u hur.1.ok).and ((qo4 ((o.1, o.2.1) :: lg') ((o.1, o.2.1) :: lg') (by omega) (by omega)).and (qqG t t ok))).mono fun n ⟨hs1, hs2, hs3⟩ e he s => ⟨s, ?_⟩
    have hs1 := he.c (by decide) hs1
    have hs2 := he.c (by decide) hs2
    have hs3 := he.c (by decide) hs3
    have h12 := he.a
    have i1 : iaV 2 (qiJ ((o.1, o.2.1) :: lg')) (i64 0) = some (qaY rwC ((o.1, o.2.1) :: lg'), 0 * 2) := qca (j := 0) (Nat.zero_lt_succ _)
    have i2 : iaV 2 (qiJ (qdj l)) (i64 0) = some (qaY rwC (qdj l), 0 * 2) := qca (j := 0) (by rw [hlen]; exact hpos)
    have d1 := fun s => qdP (c := rwC) (sz := 2) (fun _ => rfl) e s (l := (o.1, o.2.1) :: lg') (j := 0) rfl
    have d2 := fun s => qdP (c := rwC) (sz := 2) (fun _ => rfl) e s (l := qdj l) (j := 0) (a := (o.1, o.2.1)) (by rw [hor]; rfl)
    have hq : eqs [1, 1] false (.agg ((rwC (o.1, o.2.1)).map .p)) (.agg ((rwC (o.1, o.2.1)).map .p)) = some (bl true) := by
     have := qq0 false (o.1, o.2.1) (o.1, o.2.1)
     simp only [decide_true, Bool.and_self, cond_false] at this
     exact this
    have g1 : (0 : Int) < Int.ofNat ((o.1, o.2.1) :: lg').length := by simp only [List.length_cons, Int.ofNat_eq_natCast]; omega
    have l0 : ln false (.p (.sl 0 [])) = some (i64 0) := rfl
    unfold s4_3 s4_2
    simp only [g1, i1, i2, d1, d2, hq, hs1, hs2, hs3, l0, h12, qa4, qaZ, qag, qaq, qa4, Int.reduceEq, decide_true, decide_false, Bool.not_true, qaa, cond_true, cond_false, qav, Option.map_some, Option.bind_some, qab, qc8]
   ·simp only [Prod.mk.injEq] at hlim
    obtain ⟨rfl, rfl, rfl⟩ := hlim
    refine (Ev.ge 0).mono fun n _ e he s => ⟨s, ?_⟩
    have h12 := he.a
    unfold s4_3 s4_1
    simp only [h12, qaZ, qag, qaq, qa4, Int.reduceEq, decide_true, decide_false, Bool.not_false, qaa, cond_true, qav, Option.map_some, Option.bind_some, qab, qc8]
  have hr22 := qo3
  refine ((hoff.and (hA.and (qqH t (by omega)))).and ((hall.and (honly.and hnone)).and (hr22.and (hfin.and (Ev.ge (l.length + 1)))))).mono fun n ⟨⟨hoff, hA, hT⟩, ⟨hall, honly, hnone⟩, hr22, hfin, hn⟩ e he => ?_
  have hfin := hfin e he
  have hoff := he.c (by decide) hoff
  have hA := he.c (by decide) hA
  have hT := he.c (by decide) hT
  have hall := he.c (by decide) hall
  have honly := he.c (by decide) honly
  have hnone := he.c (by decide) hnone
  have hr22 := he.c (by decide) hr22
  obtain ⟨s', hfin⟩ := hfin s00
  refine ⟨s', ?_⟩
  have hoff : ∀ s, cl e 21 [a.v, t.v] s = some (.tuple [qiJ (qdj l), bl (decide (0 < l.length))], s) := hoff
  have hpos : 0 < l.length := hpos
  unfold s4
  simp only [qee, qoZ, hoff, hpos, qal, qaZ, decide_true, Bool.not_true, qaa, cond_false, Option.bind_some, qab, qai, qar, qas, qau]
  rw [s4_4_split]
  generalize hF : (fun (h15 : AVal → Res) (x14 : AVal) => _) = F
  refine qdO _ F (l.length - 1) (fun j L => L (i64 (.ofNat (j + 1)))) (fun j => some (bl true, s')) (fun j L hj ih => ?_) (fun L => ?_) n 0 (Nat.zero_le _) (by omega)
  ·subst hF
   have hj1 : j + 1 < (qdj l).length := by rw [hlen]; omega
   have hj0 : j < (qdj l).length := by omega
   have hlt : lt1 l[j] l[j + 1] := List.pairwise_iff_getElem.1 hsort j (j + 1) (by omega) (by omega) (by omega)
   have g1 : (qdj l)[j + 1]? = some (l[j + 1].1, l[j + 1].2.1) := by
    rw [List.getElem?_map, List.getElem?_eq_getElem (by omega)]; rfl
   have g0 : (qdj l)[j]? = some (l[j].1, l[j].2.1) := by
    rw [List.getElem?_map, List.getElem?_eq_getElem (by omega)]; rfl
   have a1 : ∀ s, ldH e s (.elem (qaY rwC (qdj l)) ((j + 1) * 2 + 1)) none = some (i64 l[j + 1].2.1) := fun s => qkM (c := rwC) (sz := 2) (fun _ => rfl) e s g1 1 (by omega)
   have a0 : ∀ s, ldH e s (.elem (qaY rwC (qdj l)) (j * 2 + 1)) none = some (i64 l[j].2.1) := fun s => qkM (c := rwC) (sz := 2) (fun _ => rfl) e s g0 1 (by omega)
   have r1 : ∀ s, ldH e s (.elem (qaY rwC (qdj l)) ((j + 1) * 2)) none = some (u8 l[j + 1].1) := fun s => qfc (c := rwC) (sz := 2) (fun _ => rfl) e s g1 (by omega)
   have r0 : ∀ s, ldH e s (.elem (qaY rwC (qdj l)) (j * 2)) none = some (u8 l[j].1) := fun s => qfc (c := rwC) (sz := 2) (fun _ => rfl) e s g0 (by omega)
   have hw : qa7 .i64 (Int.ofNat (j + 1) - 1) = Int.ofNat j := by
    have : Int.ofNat (j + 1) - 1 = Int.ofNat j := by simp only [Int.ofNat_eq_natCast]; omega
    rw [this]
    exact qbS (by simp only [Int.ofNat_eq_natCast]; omega) (by simp only [Int.ofNat_eq_natCast]; omega)
   have hnl : ¬ (l[j + 1].2.1 < l[j].2.1) := by
    rcases hlt with h | ⟨h, _⟩ <;> omega
   unfold qvy s4_0
   by_cases heq : l[j + 1].2.1 = l[j].2.1
   ·have hru : l[j].1 < l[j + 1].1 := by
     rcases hlt with h | ⟨_, h⟩
     ·omega
     ·exact h
    have hnl' : ¬ (l[j].2.1 < l[j].2.1) := Int.lt_irrefl _
    simp only [of_lt.2 hj1, qca hj1, qca hj0, a1, a0, r1, r0, hw, heq, hnl', hru, qa1 (show j + 1 < 9223372036854775807 by omega), qag, qaq, qaD, qds, qaG, qbC, decide_true, decide_false, Bool.not_true, qaa, cond_true, cond_false, qav, Option.map_some, Option.bind_some, qab, qc8]
    exact ih
   ·simp only [of_lt.2 hj1, qca hj1, qca hj0, a1, a0, hw, hnl, heq, qa1 (show j + 1 < 9223372036854775807 by omega), qag, qaq, qaD, qaG, qbC, decide_true, decide_false, qaa, cond_true, cond_false, qav, Option.map_some, Option.bind_some, qab, qc8]
    exact ih
  ·subst hF
   have h3 : ¬ (Int.ofNat (l.length - 1 + 1) < Int.ofNat (qdj l).length) := fun hh => by have := of_lt.1 hh; rw [hlen] at this; omega
   have hE := qt0 (s4_3 e n) (qiJ (qdj l)) s00 hA hT hall hr22 honly hnone
   rw [show qiJ [] = AVal.p (.sl 0 []) from rfl] at hE
   simp only [h3, qag, qaD, decide_false, qaa, cond_false, Option.map_some, Option.bind_some, qc8]
   refine Eq.trans hE ?_
   split
   ·exact hfin
   ·rename_i h0
    rw [← hfin]
    simp only [h0, decide_false, Bool.not_false]
 ·have his : (qc4 a t).2 = false := by simpa using his
  rw [his] at hoff
  refine hoff.mono fun n hoff e he => ⟨s00, ?_⟩
  have hoff := he.c (by decide) hoff
  have h12 := he.a
  unfold s4
  simp only [qee, qoZ, hoff, h12, qal, qaZ, Bool.not_false, qaa, cond_true, Option.bind_some, qab, qai, qar, qas, qau]
end Go.AI.Tryz
