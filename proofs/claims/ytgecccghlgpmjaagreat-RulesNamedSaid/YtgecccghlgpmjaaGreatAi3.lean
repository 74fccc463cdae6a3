/- Part 3 of an interpreter for the code of the model, proved sound: loads, stores, appends, maps are sound. No condition. -/
import Derived.Test.YtgecccghlgpmjaaGreatAi2
import Derived.Deep.AppendSrc
import Derived.Deep.Upon
import Derived.MapKept
set_option linter.unusedVariables false
set_option linter.unusedSimpArgs false
/- New blocks, changed blocks. -/
namespace Go.AI

def upd {α : Type} (f : Nat → α) (b : Nat) (x : α) : Nat → α := fun y => if y = b then x else f y
theorem upd_eq {α : Type} (f : Nat → α) (b : Nat) (x : α) : upd f b x b = x := by simp [upd]
theorem upd_ne {α : Type} (f : Nat → α) (b : Nat) (x : α) {y : Nat} (h : y ≠ b) : upd f b x y = f y := by simp [upd, h]

section
variable {G G' : Gh} {w w' : World}
/-- A new block gets a role. -/
theorem Ext.new (k : Keep w w') {b : Nat} (hb : w.heap.size ≤ b) (ho : ∀ y, y ≠ b → G'.own y = G.own y) (hf : G.own b = .free) (hbOf : ∀ l x, G.bOf l = some x → G'.bOf l = some x)
    (hlam : ∀ i g x, G.lam i g = some x → G'.lam i g = some x) (hnt : G.nt ≤ G'.nt) (hlo : G'.lo = G.lo) (hlow : ∀ k, k < G.lo → G'.bOf k = G.bOf k) (hr : ∀ t n sz, G'.own b = .tok t n sz → G.nt ≤ t) : Ext G w G' w' where
  size := k.size
  os := k.os
  tape := k.tape
  output := k.output
  still := fun y hy _ => ⟨k.same y hy, ho y (by omega)⟩
  tok := fun y t n sz hy h => ⟨fun o v _ hc => by
    unfold World.cell? at hc ⊢
    rw [k.same y hy]
    exact hc, .inr ⟨n, Nat.le_refl _, by rw [ho y (by omega)]; exact h⟩⟩
  shape := fun y t n sz c E' h hc _ => ⟨c, by rw [k.same y (Array.getElem?_eq_some_iff.1 hc).1]; exact hc, rfl⟩
  loc := fun y l h => by rw [ho y (fun e => by subst e; rw [hf] at h; cases h)]; exact h
  lcl := fun y i g h => by rw [ho y (fun e => by subst e; rw [hf] at h; cases h)]; exact h
  bOf := hbOf
  lam := hlam
  nt := hnt
  cold := k.cold
  lo_ := hlo
  low := hlow
  old := fun y t m sz h ht => by
    by_cases e : y = b
    · subst e
      exact absurd (hr t m sz h) (by omega)
    · rw [ho y e] at h
      exact ⟨y, m, h, Nat.le_refl _, fun _ => rfl⟩

/-- The world but for one block. -/
structure Swap (b : Nat) (w w' : World) : Prop where
  size : w'.heap.size = w.heap.size
  os : w'.os = w.os
  tape : w'.tape = w.tape
  output : w'.output = w.output
  same : ∀ y, y ≠ b → w'.heap[y]? = w.heap[y]?
  cold : ∀ a, w'.frozen? a = w.frozen? a
/-- A block that is a place's or a local's is changed. -/
theorem Ext.chg {b : Nat} (k : Swap b w w') (hs : ¬ (G.own b).still) (ht : ∀ t n sz, G.own b ≠ .tok t n sz) : Ext G w G w' where
  size := by rw [k.size]; exact Nat.le_refl _
  os := k.os
  tape := k.tape
  output := k.output
  still := fun y _ h => ⟨k.same y (fun e => hs (by rw [← e]; exact h)), rfl⟩
  tok := fun y t n sz _ h => by
    have hy : y ≠ b := fun e => ht t n sz (by rw [← e]; exact h)
    refine ⟨fun o v _ hc => ?_, .inr ⟨n, Nat.le_refl _, h⟩⟩
    unfold World.cell? at hc ⊢
    rw [k.same y hy]
    exact hc
  shape := fun y t n sz c E' h hc _ => by
    have hy : y ≠ b := fun e => ht t n sz (by rw [← e]; exact h)
    exact ⟨c, by rw [k.same y hy]; exact hc, rfl⟩
  loc := fun _ _ h => h
  lcl := fun _ _ _ h => h
  bOf := fun _ _ h => h
  lam := fun _ _ _ h => h
  nt := Nat.le_refl _
  cold := k.cold
  lo_ := rfl
  low := fun _ _ => rfl
  old := fun y _ m _ h _ => ⟨y, m, h, Nat.le_refl _, fun _ => rfl⟩
end

section
variable {P : Program} {E : Heap} {U pd : Nat → Option (List AVal)} {l : Tr (Nat × List AVal)} {s : ASt} {G : Gh} {w w' : World}

/-- A new local. -/
def Gh.addL (G : Gh) (b i g : Nat) : Gh := { G with own := upd G.own b (.lcl i g), lam := fun j k => if j = i ∧ k = g then some b else G.lam j k }
theorem lam_fresh (h : MR P E U pd l s G w) {i g : Nat} (hg : (l.get (0, []) i).1 < g) : G.lam i g = none := by
  cases e : G.lam i g with
  | none => rfl
  | some b => exact absurd (h.lam i g b e).2.1 (by omega)
theorem MR.ext_addL (h : MR P E U pd l s G w) (k : Keep w w') {b i g : Nat} (hb : w.heap.size ≤ b) (hl : G.lam i g = none) : Ext G w (G.addL b i g) w' :=
  Ext.new k hb (fun y hy => upd_ne _ _ _ hy) (h.free hb) (fun _ _ h => h) (fun j k x hx => by
    unfold Gh.addL
    simp only
    split
    · rename_i e
      rw [e.1, e.2, hl] at hx
      cases hx
    · exact hx) (Nat.le_refl _) rfl (fun _ _ => rfl) (fun t n sz e => by simp [Gh.addL, upd_eq] at e)
theorem MR.addL (h : MR P E U pd l s G w) (k : Keep w w') {b i : Nat} (hb : w.heap.size ≤ b) (hb' : b < w'.heap.size) (hh : l.has i = true) (hp : pd i = none) {cs : List AVal}
    (hr : BR (G.addL b i ((l.get (0, []) i).1 + 1)) w' b cs) : MR P E U pd (l.set i ((l.get (0, []) i).1 + 1, cs)) s (G.addL b i ((l.get (0, []) i).1 + 1)) w' := by
  have hl : G.lam i ((l.get (0, []) i).1 + 1) = none := lam_fresh h (by omega)
  have x : Step G w (G.addL b i ((l.get (0, []) i).1 + 1)) w' (fun y => y = b) := ⟨h.ext_addL k hb hl, fun y hy hn => ⟨k.same y hy, upd_ne _ _ _ hn⟩⟩
  have hf := h.free hb
  have hne : ∀ y r, G.own y = r → r ≠ .free → y ≠ b := fun y r h1 h2 e => h2 (by rw [← h1, e, hf])
  have hk' : ∀ y r, (∀ j q, r ≠ .lcl j q) → (G.addL b i ((l.get (0, []) i).1 + 1)).own y = r → r ≠ .free → y ≠ b := fun y r h1 h2 _ e => by
    subst e
    simp only [Gh.addL, upd_eq] at h2
    exact h1 _ _ h2.symm
  refine ⟨fun y hy => ?_, h.bOf, h.lo_, h.un, fun j zs hj => ?_, h.nt, ?_, ?_, h.heap.step x (fun y q ho => hne y _ ho (by simp)) (fun _ _ _ h => h), h.ro.step x (fun y q ho => hne y _ ho (by simp)),
    h.tok.step (fun y t n sz ho => by simp only [Gh.addL]; rw [upd_ne _ _ _ (hne y _ ho (by simp))]; exact ho) (fun y t n sz ho => by
      have hy := hk' y _ (fun _ _ e => by cases e) ho (by simp)
      simp only [Gh.addL] at ho
      rw [upd_ne _ _ _ hy] at ho
      exact ho) (fun y _ _ _ ho => k.same y (h.own y (by rw [ho]; simp)))⟩
  · by_cases e : y = b
    · subst e; exact hb'
    · simp only [Gh.addL] at hy
      rw [upd_ne _ _ _ e] at hy
      exact Nat.lt_of_lt_of_le (h.own y hy) k.size
  · have hji : j ≠ i := fun e => by rw [e, hp] at hj; cases hj
    rw [Tr.get_set _ _ _ _ _ hh, if_neg (fun e => hji e.symm)]
    exact h.pdz j zs hj
  · intro j g ds hg hg0 hpj
    rw [Tr.get_set _ _ _ _ _ hh] at hg
    split at hg
    · rename_i e
      subst e
      injection hg with e1 e2
      subst e1; subst e2
      exact ⟨b, by simp [Gh.addL], by simp [Gh.addL, upd_eq], hr⟩
    · exact (h.loc.step x (fun y q r ho => hne y _ ho (by simp))) j g ds hg hg0 hpj
  · intro j g y hy
    rw [Tr.get_set _ _ _ _ _ hh]
    simp only [Gh.addL] at hy
    split at hy
    · rename_i e
      obtain ⟨rfl, rfl⟩ := e
      rw [if_pos rfl]
      exact ⟨by omega, Nat.le_refl _, fun hn => absurd hp hn⟩
    · obtain ⟨h1, h2, h3⟩ := h.lam j g y hy
      split
      · rename_i e
        subst e
        exact ⟨h1, by simp only; omega, fun hn => absurd hp hn⟩
      · exact ⟨h1, h2, h3⟩
/-- A local that was laid abstractly is there now. -/
theorem MR.addP (h : MR P E U pd l s G w) (k : Keep w w') {b i : Nat} (hb : w.heap.size ≤ b) (hb' : b < w'.heap.size) {zs : List AVal} (hp : pd i = some zs)
    (hr : BR (G.addL b i (l.get (0, []) i).1) w' b zs) : Ext G w (G.addL b i (l.get (0, []) i).1) w' ∧ MR P E U (upd pd i none) l s (G.addL b i (l.get (0, []) i).1) w' := by
  have hl : G.lam i (l.get (0, []) i).1 = none := by
    cases e : G.lam i (l.get (0, []) i).1 with
    | none => rfl
    | some b => exact absurd ((h.lam i _ b e).2.2 (by rw [hp]; simp)) (Nat.lt_irrefl _)
  have x : Step G w (G.addL b i (l.get (0, []) i).1) w' (fun y => y = b) := ⟨h.ext_addL k hb hl, fun y hy hn => ⟨k.same y hy, upd_ne _ _ _ hn⟩⟩
  have hf := h.free hb
  have hne : ∀ y r, G.own y = r → r ≠ .free → y ≠ b := fun y r h1 h2 e => h2 (by rw [← h1, e, hf])
  have hk' : ∀ y r, (∀ j q, r ≠ .lcl j q) → (G.addL b i (l.get (0, []) i).1).own y = r → r ≠ .free → y ≠ b := fun y r h1 h2 _ e => by
    subst e
    simp only [Gh.addL, upd_eq] at h2
    exact h1 _ _ h2.symm
  refine ⟨x.ext, fun y hy => ?_, h.bOf, h.lo_, h.un, fun j zs hj => ?_, h.nt, ?_, ?_, h.heap.step x (fun y q ho => hne y _ ho (by simp)) (fun _ _ _ h => h), h.ro.step x (fun y q ho => hne y _ ho (by simp)),
    h.tok.step (fun y t n sz ho => by simp only [Gh.addL]; rw [upd_ne _ _ _ (hne y _ ho (by simp))]; exact ho) (fun y t n sz ho => by
      have hy := hk' y _ (fun _ _ e => by cases e) ho (by simp)
      simp only [Gh.addL] at ho
      rw [upd_ne _ _ _ hy] at ho
      exact ho) (fun y _ _ _ ho => k.same y (h.own y (by rw [ho]; simp)))⟩
  · by_cases e : y = b
    · subst e; exact hb'
    · simp only [Gh.addL] at hy
      rw [upd_ne _ _ _ e] at hy
      exact Nat.lt_of_lt_of_le (h.own y hy) k.size
  · by_cases e : j = i
    · subst e; rw [upd_eq] at hj; cases hj
    · rw [upd_ne _ _ _ e] at hj; exact h.pdz j zs hj
  · intro j g ds hg hg0 hpj
    by_cases e : j = i
    · subst e
      have h2 := (h.pdz j zs hp).1
      rw [hg] at h2
      simp only at h2
      subst h2
      rw [hg] at hr ⊢
      exact ⟨b, by simp [Gh.addL], by simp [Gh.addL, upd_eq], hr⟩
    · rw [upd_ne _ _ _ e] at hpj
      exact (h.loc.step x (fun y q r ho => hne y _ ho (by simp))) j g ds hg hg0 hpj
  · intro j g y hy
    simp only [Gh.addL] at hy
    split at hy
    · rename_i e
      obtain ⟨rfl, rfl⟩ := e
      exact ⟨(h.pdz j zs hp).2, Nat.le_refl _, fun hn => absurd (upd_eq pd j none) hn⟩
    · obtain ⟨h1, h2, h3⟩ := h.lam j g y hy
      refine ⟨h1, h2, fun hn => ?_⟩
      by_cases e : j = i
      · subst e; exact absurd (upd_eq pd j none) hn
      · rw [upd_ne _ _ _ e] at hn; exact h3 hn

/-- A new place of the heap. -/
def Gh.addH (G : Gh) (b k : Nat) : Gh := { G with own := upd G.own b (.loc k), bOf := upd G.bOf k (some b) }
theorem MR.ext_addH (h : MR P E U pd l s G w) (k : Keep w w') {b q : Nat} (hb : w.heap.size ≤ b) (hl : G.bOf q = none) (hq : G.lo ≤ q) : Ext G w (G.addH b q) w' :=
  Ext.new k hb (fun y hy => upd_ne _ _ _ hy) (h.free hb) (fun j x hx => by
    unfold Gh.addH
    simp only
    rw [upd_ne _ _ _ (fun e => by rw [e, hl] at hx; cases hx)]
    exact hx) (fun _ _ _ h => h) (Nat.le_refl _) rfl (fun j hj => by simp only [Gh.addH]; rw [upd_ne _ _ _ (by omega)]) (fun t n sz e => by simp [Gh.addH, upd_eq] at e)
theorem MR.bOf_next (h : MR P E U pd l s G w) : G.bOf s.next = none := by
  cases e : G.bOf s.next with
  | none => rfl
  | some b => exact absurd (h.bOf _ _ e) (Nat.lt_irrefl _)
theorem MR.addH (h : MR P E U pd l s G w) (k : Keep w w') {b : Nat} (hb : w.heap.size ≤ b) (hb' : b < w'.heap.size) {o : HObj} (hr : OR P (G.addH b s.next) w' b o) : MR P E U pd l (newObj s o) (G.addH b s.next) w' := by
  have x : Step G w (G.addH b s.next) w' (fun y => y = b) := ⟨h.ext_addH k hb h.bOf_next h.lo_, fun y hy hn => ⟨k.same y hy, upd_ne _ _ _ hn⟩⟩
  have hf := h.free hb
  have hne : ∀ y r, G.own y = r → r ≠ .free → y ≠ b := fun y r h1 h2 e => h2 (by rw [← h1, e, hf])
  refine ⟨fun y hy => ?_, fun q y hq => ?_, Nat.le_succ_of_le h.lo_, fun q zs hq => ?_, h.pdz, h.nt, h.loc.step x (fun y q r ho => hne y _ ho (by simp)), h.lam, ?_, h.ro.step x (fun y q ho => hne y _ ho (by simp)),
    h.tok.step (fun y t n sz ho => by simp only [Gh.addH]; rw [upd_ne _ _ _ (hne y _ ho (by simp))]; exact ho) (fun y t n sz ho => by
      have hy : y ≠ b := fun e => by subst e; simp [Gh.addH, upd_eq] at ho
      simp only [Gh.addH] at ho
      rw [upd_ne _ _ _ hy] at ho
      exact ho) (fun y _ _ _ ho => k.same y (h.own y (by rw [ho]; simp)))⟩
  · by_cases e : y = b
    · subst e; exact hb'
    · simp only [Gh.addH] at hy
      rw [upd_ne _ _ _ e] at hy
      exact Nat.lt_of_lt_of_le (h.own y hy) k.size
  · show q < s.next + 1
    simp only [Gh.addH] at hq
    by_cases e : q = s.next
    · omega
    · rw [upd_ne _ _ _ e] at hq
      exact Nat.lt_succ_of_lt (h.bOf q y hq)
  · obtain ⟨h1, h2, h3⟩ := h.un q zs hq
    have hlt := (h.heap _ _ h2).1
    have e : q ≠ s.next := by omega
    refine ⟨by simp only [Gh.addH]; rw [upd_ne _ _ _ e]; exact h1, ?_, h3⟩
    show assoc ((s.next, o) :: s.heap) q = _
    rw [assoc_cons, if_neg (fun e' => e e'.symm)]
    exact h2
  · intro q p hq
    have hq' : assoc ((s.next, o) :: s.heap) q = some p := hq
    rw [assoc_cons] at hq'
    split at hq'
    · rename_i e
      subst e
      injection hq' with e1
      subst e1
      exact ⟨Nat.lt_succ_self _, .inr ⟨b, by simp [Gh.addH, upd_eq], by simp [Gh.addH, upd_eq], hr⟩⟩
    · rename_i e
      have := (h.heap.step x (fun y q ho => hne y _ ho (by simp)) (fun j p hj hj' => by
        have hlt := (h.heap _ _ hj).1
        simp only [Gh.addH]
        rw [upd_ne _ _ _ (by omega)]
        exact hj')) q p hq'
      exact ⟨Nat.lt_succ_of_lt this.1, this.2⟩
/-- A place that was laid abstractly is there now. -/
theorem MR.addU (h : MR P E U pd l s G w) (k : Keep w w') {b q : Nat} (hb : w.heap.size ≤ b) (hb' : b < w'.heap.size) {zs : List AVal} (hu : U q = some zs) (hr : OR P (G.addH b q) w' b (.cells zs)) :
    Ext G w (G.addH b q) w' ∧ MR P E (upd U q none) pd l s (G.addH b q) w' := by
  obtain ⟨hq0, hq1, hqlo⟩ := h.un q zs hu
  have x : Step G w (G.addH b q) w' (fun y => y = b) := ⟨h.ext_addH k hb hq0 hqlo, fun y hy hn => ⟨k.same y hy, upd_ne _ _ _ hn⟩⟩
  have hf := h.free hb
  have hne : ∀ y r, G.own y = r → r ≠ .free → y ≠ b := fun y r h1 h2 e => h2 (by rw [← h1, e, hf])
  refine ⟨x.ext, fun y hy => ?_, fun p y hp => ?_, h.lo_, fun p zs hp => ?_, h.pdz, h.nt, h.loc.step x (fun y q r ho => hne y _ ho (by simp)), h.lam, ?_, h.ro.step x (fun y q ho => hne y _ ho (by simp)),
    h.tok.step (fun y t n sz ho => by simp only [Gh.addH]; rw [upd_ne _ _ _ (hne y _ ho (by simp))]; exact ho) (fun y t n sz ho => by
      have hy : y ≠ b := fun e => by subst e; simp [Gh.addH, upd_eq] at ho
      simp only [Gh.addH] at ho
      rw [upd_ne _ _ _ hy] at ho
      exact ho) (fun y _ _ _ ho => k.same y (h.own y (by rw [ho]; simp)))⟩
  · by_cases e : y = b
    · subst e; exact hb'
    · simp only [Gh.addH] at hy
      rw [upd_ne _ _ _ e] at hy
      exact Nat.lt_of_lt_of_le (h.own y hy) k.size
  · simp only [Gh.addH] at hp
    by_cases e : p = q
    · subst e; exact (h.heap _ _ hq1).1
    · rw [upd_ne _ _ _ e] at hp
      exact h.bOf p y hp
  · by_cases e : p = q
    · subst e; rw [upd_eq] at hp; cases hp
    · rw [upd_ne _ _ _ e] at hp
      obtain ⟨h1, h2, h3⟩ := h.un p zs hp
      exact ⟨by simp only [Gh.addH]; rw [upd_ne _ _ _ e]; exact h1, h2, h3⟩
  · intro p o hp
    by_cases e : p = q
    · subst e
      rw [hq1] at hp
      injection hp with e1
      subst e1
      exact ⟨(h.heap _ _ hq1).1, .inr ⟨b, by simp [Gh.addH, upd_eq], by simp [Gh.addH, upd_eq], hr⟩⟩
    · obtain ⟨h1, h2⟩ := h.heap p o hp
      refine ⟨h1, ?_⟩
      rcases h2 with h2 | ⟨y, h3, h4, h5⟩
      · exact .inl (by simp only [Gh.addH]; rw [upd_ne _ _ _ e]; exact h2)
      · obtain ⟨h6, h7⟩ := x.same y h5.lt (hne y _ h4 (by simp))
        exact .inr ⟨y, x.ext.bOf _ _ h3, h7.trans h4, h5.ext x.ext h6⟩
end
end Go.AI

/- Operations with effects: loads, allocations, stores. -/
namespace Go.AI
variable {P : Program} {E : Heap} {U pd : Nat → Option (List AVal)} {l : Tr (Nat × List AVal)} {s : ASt} {G : Gh} {w : World} {f : Tr AVal} {a : Act} {o : Oper} {v : AVal}

theorem BR.cut {b off n : Nat} {cs0 cs : List AVal} (h : BR G w b cs0) (hc : cut cs0 off n = some cs) :
    ∃ us : List Value, us.length = n ∧ VRs G w cs us ∧ (∀ u ∈ us, u.oneCell' = true) ∧ ∀ (j : Nat) u, us[j]? = some u → w.cell? ((⟨b, off, none⟩ : Addr).add j) = some u := by
  obtain ⟨c, E, h1, h2, h3, h4⟩ := h
  obtain ⟨h5, h6⟩ := cut_some hc
  have hlen : ((c.toList.drop off).take n).length = n := by simp; omega
  refine ⟨(c.toList.drop off).take n, hlen, ⟨by rw [hlen]; exact cut_length hc, fun i x u hx hu => ?_⟩, fun u hu => h3 u (by
    have := List.mem_of_mem_drop (List.mem_of_mem_take hu)
    simpa using this), fun j u hu => ?_⟩
  · have hi : i < n := by rw [← hlen]; exact (List.getElem?_eq_some_iff.1 hu).1
    rw [cut_get hc i hi] at hx
    rw [List.getElem?_take, if_pos hi, List.getElem?_drop] at hu
    exact h4 _ x u hx (by simpa using hu)
  · have hj : j < n := by rw [← hlen]; exact (List.getElem?_eq_some_iff.1 hu).1
    rw [List.getElem?_take, if_pos hj, List.getElem?_drop] at hu
    rw [add_mk]
    unfold World.cell?
    simp only [h1]
    simpa using hu
theorem load_cells (h : MR P E U pd l s G w) {x : AVal} {v : Value} (hv : VR G w x v) {n : Nat} {cs : List AVal} (hl : loadFrom E l s x n = some cs) :
    ∃ ad us, v = .pointer (some ad) ∧ us.length = n ∧ VRs G w cs us ∧ (∀ u ∈ us, u.oneCell' = true) ∧ ∀ (j : Nat) u, us[j]? = some u → w.cell? (ad.add j) = some u := by
  unfold loadFrom at hl
  split at hl <;> try (cases hl; done)
  · rename_i i g off
    generalize hli : l.get (0, []) i = p at hl
    obtain ⟨g', cs0⟩ := p
    simp only at hl
    cases hb : Nat.beq g g' with
    | false => rw [hb] at hl; cases hl
    | true =>
      rw [hb] at hl
      simp only [cond_true] at hl
      have e : g = g' := beq_iff.1 hb
      subst e
      cases hv with | lptr _ _ _ b hlam =>
      obtain ⟨h1, _, h3⟩ := h.lam i g b hlam
      have hp : pd i = none := by
        cases e : pd i with
        | none => rfl
        | some zs =>
          have := h3 (by rw [e]; simp)
          rw [hli] at this
          exact absurd this (Nat.lt_irrefl _)
      obtain ⟨b', h4, _, h5⟩ := h.loc i g cs0 hli h1 hp
      rw [hlam] at h4
      cases h4
      obtain ⟨us, k1, k2, k3, k4⟩ := h5.cut hl
      exact ⟨_, us, rfl, k1, k2, k3, k4⟩
  · rename_i q off
    simp only [Option.bind_eq_some_iff] at hl
    obtain ⟨cs0, hc0, hl⟩ := hl
    cases hv with | ptr _ _ b hb =>
    have hbr : BR G w b cs0 := by
      unfold cellsAt at hc0
      split at hc0
      · rename_i ds he
        simp only [Option.some.injEq] at hc0
        subst hc0
        rcases (h.heap q _ he).2 with e | ⟨b', h1, h2, h3⟩
        · rw [hb] at e; cases e
        · rw [hb] at h1; cases h1; exact h3.1
      · cases hc0
      · split at hc0 <;> try (cases hc0; done)
        rename_i ds he
        simp only [Option.some.injEq] at hc0
        subst hc0
        rcases (h.ro q _ he).2 with e | ⟨b', j, h1, h2, h3⟩
        · rw [hb] at e; cases e
        · rw [hb] at h1; cases h1; exact h3.1
    obtain ⟨us, k1, k2, k3, k4⟩ := hbr.cut hl
    exact ⟨_, us, rfl, k1, k2, k3, k4⟩
  · rename_i ds off
    simp only [Option.map_eq_some_iff] at hl
    obtain ⟨es, hes, rfl⟩ := hl
    cases hv with | elem _ _ ad he =>
    obtain ⟨hle, _⟩ := cut_some hes
    have hlen := cut_length hes
    -- the values
    have key : ∀ j : Nat, j < n → ∃ u, w.cell? (ad.add j) = some u ∧ (∀ c, es[j]? = some c → PR G.S w c u) ∧ u.oneCell' = true := by
      intro j hj
      have hx : ∃ c, ds[off + j]? = some c := ⟨_, List.getElem?_eq_getElem (by omega)⟩
      obtain ⟨c, hc⟩ := hx
      obtain ⟨u, h1, _, h2, h3⟩ := he j c hc
      refine ⟨u, h1, fun c' hc' => ?_, h3⟩
      rw [cut_get hes j hj, hc] at hc'
      cases hc'
      exact h2
    refine ⟨ad, (List.range n).map fun j => (w.cell? (ad.add j)).getD undef, rfl, by simp, ⟨by simp [hlen], fun i c u hc hu => ?_⟩, fun u hu => ?_, fun j u hu => ?_⟩
    · simp only [List.getElem?_map, Option.map_eq_some_iff] at hc hu
      obtain ⟨c', hc', rfl⟩ := hc
      obtain ⟨j, hj, rfl⟩ := hu
      have hjn : i < n ∧ j = i := by
        obtain ⟨hlt, e⟩ := List.getElem?_eq_some_iff.1 hj
        simp at hlt e
        exact ⟨hlt, e.symm⟩
      obtain ⟨hi, rfl⟩ := hjn
      obtain ⟨u, h1, h2, _⟩ := key j hi
      rw [h1]
      exact .p _ _ (h2 c' hc')
    · obtain ⟨j, hj, rfl⟩ := List.mem_map.1 hu
      obtain ⟨u, h1, _, h2⟩ := key j (by simpa using hj)
      rw [h1]; exact h2
    · simp only [List.getElem?_map, Option.map_eq_some_iff] at hu
      obtain ⟨k, hk, rfl⟩ := hu
      have hjn : j < n ∧ k = j := by
        obtain ⟨hlt, e⟩ := List.getElem?_eq_some_iff.1 hk
        simp at hlt e
        exact ⟨hlt, e.symm⟩
      obtain ⟨hj, rfl⟩ := hjn
      obtain ⟨u, h1, _⟩ := key k hj
      rw [h1]; rfl
theorem run_isAgg {t : TypeId} {d : TypeDesc} (h : P.underlying t = some d) (w : World) : (isAgg t).run P w = .ok (isAggD d) w := by
  unfold isAgg
  rw [Sem.run_bind, run_underlying h w]
  cases d <;> rfl
theorem load_run {t : TypeId} {n : Option Nat} (hn : shp P t = some n) {ad : Addr} {us : List Value} (hl : us.length = cnt n) (hc : ∀ (j : Nat) u, us[j]? = some u → w.cell? (ad.add j) = some u) :
    ∃ v, (Instr.loadAt t (.pointer (some ad))).run P w = .ok v w ∧ (n = none → us = [v]) ∧ (∀ m, n = some m → v = .agg us.toArray) := by
  obtain ⟨d, i, hd, hi, hsz, hag⟩ := shp_ok hn
  cases n with
  | none =>
    match us, hl with
    | [u], _ =>
      refine ⟨u, ?_, fun _ => rfl, (fun _ e => by cases e)⟩
      have hcell : w.cell? ad = some u := by
        have := hc 0 u rfl
        unfold Addr.add at this
        simpa using this
      have hf : isAggD d = false := by rw [← hag]; rfl
      simp [Instr.loadAt, Instr.sureAddr, loadVar, run_isAgg hd, hf, run_load, hcell]
  | some m =>
    refine ⟨.agg us.toArray, ?_, (fun e => by cases e), fun _ _ => rfl⟩
    have hf : isAggD d = true := by rw [← hag]; rfl
    have hs : i.size = us.length := by rw [hsz, hl]
    simp [Instr.loadAt, Instr.sureAddr, loadVar, run_isAgg hd, hf, run_sizeOf' hi, hs, run_loadCells_list w ad us hc]
theorem ok_load (h : MR P E U pd l s G w) (t : TypeId) (x : Operand) (hop : o.op = .load t x) {n : Option Nat} (hn : shp P t = some n) {g : Arg} (hg : cArg x = some g) (hr : ReadsOK G w f a g.tmps) {cs : List AVal} (hl : loadFrom E l s (g.ev f) (cnt n) = some cs)
    (hv : AVal.ofCells n cs = some v) : PureOK P G w o a v := by
  obtain ⟨ad, us, h1, h2, h3, h4, h5⟩ := load_cells h (arg_ok hg hr) hl
  obtain ⟨u, h6, h7, h8⟩ := load_run hn h2 h5
  refine pure_of (exec_load t x hop) (by rw [h1]; exact h6) (Keep.refl w) ?_
  obtain ⟨k1, k2⟩ := ofCells_ok hv h3 h4
  cases n with
  | none =>
    obtain ⟨u', e, k3⟩ := k1 rfl
    rw [h7 rfl] at e
    cases e
    exact k3
  | some m =>
    rw [h8 m rfl]
    exact k2 m rfl

/-! ### What is asked of an operation -/
def EffP (P : Program) (E : Heap) (U pd : Nat → Option (List AVal)) (G : Gh) (w : World) (l : Tr (Nat × List AVal)) (s : ASt) (v : AVal) : Value → World → Prop :=
  fun u w' => ∃ G', Ext G w G' w' ∧ MR P E U pd l s G' w' ∧ VR G' w' v u
theorem PureOK.eff (h : MR P E U pd l s G w) (k : PureOK P G w o a v) : NextP P (EffP P E U pd G w l s v) ((execOp a.eval o).run P w) := by
  obtain ⟨u, w', h1, h2, h3⟩ := k
  rw [h1]
  exact ⟨G, h2.ext G, h.keep h2, h3⟩
theorem eff_of {U' pd' : Nat → Option (List AVal)} {l' : Tr (Nat × List AVal)} {s' : ASt} {sem : Sem Value} {u : Value} {w' : World} (he : execOp a.eval o = (do pure (.value (← sem)))) (hs : sem.run P w = .ok u w') (h : EffP P E U' pd' G w l' s' v u w') :
    NextP P (EffP P E U' pd' G w l' s' v) ((execOp a.eval o).run P w) := by
  rw [he, Sem.run_bind, hs]
  exact h
theorem eff_skip {U' pd' : Nat → Option (List AVal)} {l' : Tr (Nat × List AVal)} {s' : ASt} {sem : Sem Unit} {w' : World} (he : execOp a.eval o = (do sem; pure .skip)) (hs : sem.run P w = .ok () w') (h : EffP P E U' pd' G w l' s' v undef w') :
    NextP P (EffP P E U' pd' G w l' s' v) ((execOp a.eval o).run P w) := by
  rw [he, Sem.run_bind, hs]
  exact h

theorem BR.of_rows {b : Nat} {cs : List AVal} {c : Array Value} {E : TypeId} (hb : w.heap[b]? = some (.cells c E (0, 0))) (h : Rows (VR G w) cs c) : BR G w b cs := ⟨c, E, hb, h.1.symm, h.2.1, fun j a v ha hv => h.2.2 j a v ha hv⟩
theorem Rows.ext {G' : Gh} {w' : World} (x : Ext G w G' w') {cs : List AVal} {c : Array Value} (h : Rows (VR G w) cs c) : Rows (VR G' w') cs c := ⟨h.1, h.2.1, fun i a v ha hv => (h.2.2 i a v ha hv).ext x⟩
theorem run_alloc {t : TypeId} {i : TypeInfo} {z : Value} (hi : P.info? t = some i) (hz : i.zero = some z) (w : World) : (Instr.alloc t true (.tuple #[])).run P w = .ok (.pointer (some ⟨w.heap.size, 0, none⟩)) (w.alloc (.cells z.cells t)) := by
  simp [Instr.alloc, zeroValue, typeInfo, hi, hz, newVar, newRow]
theorem run_box (t : TypeId) (x : Value) (w : World) : (Instr.box t x).run P w = .ok (.pointer (some ⟨w.heap.size, 0, none⟩)) (w.alloc (.cells x.cells t)) := by
  simp [Instr.box, newVar, newRow]
theorem alloc_lt (w : World) (o : Obj) : w.heap.size < (w.alloc o).heap.size := by simp

/-- A local is laid. -/
theorem eff_addL (h : MR P E U pd l s G w) {i : Nat} (hh : l.has i = true) (hp : pd i = none) {cs : List AVal} {c : Array Value} {t : TypeId} (hr : Rows (VR G w) cs c) :
    EffP P E U pd G w (l.set i ((l.get (0, []) i).1 + 1, cs)) s (.lptr i ((l.get (0, []) i).1 + 1) 0) (.pointer (some ⟨w.heap.size, 0, none⟩)) (w.alloc (.cells c t)) := by
  have x := h.ext_addL (Keep.alloc w (.cells c t)) (b := w.heap.size) (i := i) (g := (l.get (0, []) i).1 + 1) (Nat.le_refl _) (lam_fresh h (by omega))
  exact ⟨_, x, h.addL (Keep.alloc w (.cells c t)) (Nat.le_refl _) (alloc_lt w _) hh hp (BR.of_rows (heap_alloc_new w _) (hr.ext x)), .lptr _ _ _ _ (by simp [Gh.addL])⟩
theorem eff_addH (h : MR P E U pd l s G w) {cs : List AVal} {c : Array Value} {t : TypeId} (ha : cs.all away1 = true) (hr : Rows (VR G w) cs c) :
    EffP P E U pd G w l (newObj s (.cells cs)) (.ptr s.next 0) (.pointer (some ⟨w.heap.size, 0, none⟩)) (w.alloc (.cells c t)) := by
  have x := h.ext_addH (Keep.alloc w (.cells c t)) (b := w.heap.size) (q := s.next) (Nat.le_refl _) h.bOf_next h.lo_
  exact ⟨_, x, h.addH (Keep.alloc w (.cells c t)) (Nat.le_refl _) (alloc_lt w _) ⟨BR.of_rows (heap_alloc_new w _) (hr.ext x), ha⟩, .ptr _ _ _ (by simp [Gh.addH, upd_eq])⟩
theorem ok_alloc (h : MR P E U pd l s G w) (t : TypeId) (hop : o.op = .alloc t) {z : List AVal} (hz : zeroCells P t = some z) {i : Nat} (hh : l.has i = true) (hp : pd i = none) :
    NextP P (EffP P E U pd G w (l.set i ((l.get (0, []) i).1 + 1, z)) s (.lptr i ((l.get (0, []) i).1 + 1) 0)) ((execOp a.eval o).run P w) := by
  obtain ⟨inf, zv, n, hi, hiz, _, _, hrows, _⟩ := zeroCells_ok G w hz
  exact eff_of (exec_alloc t hop) (run_alloc hi hiz w) (eff_addL h hh hp hrows)
theorem ok_halloc (h : MR P E U pd l s G w) (t : TypeId) (hop : o.op = .alloc t) {z : List AVal} (hz : zeroCells P t = some z) :
    NextP P (EffP P E U pd G w l (newObj s (.cells z)) (.ptr s.next 0)) ((execOp a.eval o).run P w) := by
  obtain ⟨inf, zv, n, hi, hiz, _, _, hrows, _, _, ha⟩ := zeroCells_ok G w hz
  exact eff_of (exec_alloc t hop) (run_alloc hi hiz w) (eff_addH h ha hrows)
theorem lam_pend (h : MR P E U pd l s G w) {i : Nat} {z : List AVal} (hp : pd i = some z) : G.lam i (l.get (0, []) i).1 = none := by
  cases e : G.lam i (l.get (0, []) i).1 with
  | none => rfl
  | some b => exact absurd ((h.lam i _ b e).2.2 (by rw [hp]; simp)) (Nat.lt_irrefl _)
theorem ok_alloced (h : MR P E U pd l s G w) (t : TypeId) (hop : o.op = .alloc t) {z : List AVal} (hz : zeroCells P t = some z) {i : Nat} (hp : pd i = some z) :
    NextP P (EffP P E U (upd pd i none) G w l s (.lptr i (l.get (0, []) i).1 0)) ((execOp a.eval o).run P w) := by
  obtain ⟨inf, zv, n, hi, hiz, _, _, hrows, _⟩ := zeroCells_ok G w hz
  have x := h.ext_addL (Keep.alloc w (.cells zv.cells t)) (b := w.heap.size) (i := i) (g := (l.get (0, []) i).1) (Nat.le_refl _) (lam_pend h hp)
  obtain ⟨_, h1⟩ := h.addP (Keep.alloc w (.cells zv.cells t)) (b := w.heap.size) (Nat.le_refl _) (alloc_lt w _) hp (BR.of_rows (heap_alloc_new w _) (hrows.ext x))
  exact eff_of (exec_alloc t hop) (run_alloc hi hiz w) ⟨_, x, h1, .lptr _ _ _ _ (by simp [Gh.addL])⟩
theorem ok_halloced (h : MR P E U pd l s G w) (t : TypeId) (hop : o.op = .alloc t) {z : List AVal} (hz : zeroCells P t = some z) {q : Nat} (hu : U q = some z) :
    NextP P (EffP P E (upd U q none) pd G w l s (.ptr q 0)) ((execOp a.eval o).run P w) := by
  obtain ⟨inf, zv, n, hi, hiz, _, _, hrows, _, _, ha⟩ := zeroCells_ok G w hz
  have x := h.ext_addH (Keep.alloc w (.cells zv.cells t)) (b := w.heap.size) (q := q) (Nat.le_refl _) (h.un q z hu).1 (h.un q z hu).2.2
  obtain ⟨_, h1⟩ := h.addU (Keep.alloc w (.cells zv.cells t)) (b := w.heap.size) (Nat.le_refl _) (alloc_lt w _) hu ⟨BR.of_rows (heap_alloc_new w _) (hrows.ext x), ha⟩
  exact eff_of (exec_alloc t hop) (run_alloc hi hiz w) ⟨_, x, h1, .ptr _ _ _ (by simp [Gh.addH, upd_eq])⟩
theorem ok_box (h : MR P E U pd l s G w) (t : TypeId) (x : Operand) (hop : o.op = .box t x) {n : Option Nat} {g : Arg} (hg : cArg x = some g) (hr : ReadsOK G w f a g.tmps) {cs : List AVal} (hc : AVal.cells n (g.ev f) = some cs)
    {i : Nat} (hh : l.has i = true) (hp : pd i = none) : NextP P (EffP P E U pd G w (l.set i ((l.get (0, []) i).1 + 1, cs)) s (.lptr i ((l.get (0, []) i).1 + 1) 0)) ((execOp a.eval o).run P w) :=
  eff_of (exec_box t x hop) (run_box t _ w) (eff_addL h hh hp (cells_rows hc (arg_ok hg hr)).2)
theorem ok_hbox (h : MR P E U pd l s G w) (t : TypeId) (x : Operand) (hop : o.op = .box t x) {n : Option Nat} {g : Arg} (hg : cArg x = some g) (hr : ReadsOK G w f a g.tmps) {cs : List AVal} (hc : AVal.cells n (g.ev f) = some cs) (ha : cs.all away1 = true) :
    NextP P (EffP P E U pd G w l (newObj s (.cells cs)) (.ptr s.next 0)) ((execOp a.eval o).run P w) :=
  eff_of (exec_box t x hop) (run_box t _ w) (eff_addH h ha (cells_rows hc (arg_ok hg hr)).2)

/-! ### Stores -/
theorem Swap.setRow (w : World) (b : Nat) (c : Array Value) : Swap b w (w.setRow b c) := ⟨by simp [World.setRow], rfl, rfl, rfl, fun y hy => setRow_other w b y c hy, fun a => by
  by_cases e : a.block = b
  · unfold World.frozen?
    rw [e]
    cases h : w.heap[b]? with
    | none =>
      have : (w.setRow b c).heap[b]? = none := by
        rw [Array.getElem?_eq_none_iff] at h ⊢
        simpa [World.setRow] using h
      rw [this]
    | some o =>
      cases o with
      | cells c0 t fr => rw [setRow_heap w b c0 c t fr h]
      | _ =>
        unfold World.setRow
        simp only [Array.getElem?_modify, if_true, h, Option.map_some]
  · unfold World.frozen?
    rw [setRow_other w b _ c e]⟩
theorem MR.chgH (h : MR P E U pd l s G w) {w' : World} {b k : Nat} (sw : Swap b w w') (hb : G.bOf k = some b) (ho : G.own b = .loc k) {ob : HObj} {hp : Heap} (hs : assocSet s.heap k ob = some hp) (hr : OR P G w' b ob) :
    Ext G w G w' ∧ MR P E U pd l { s with heap := hp } G w' := by
  have x : Step G w G w' (fun y => y = b) := ⟨Ext.chg sw (by rw [ho]; exact fun e => e) (by rw [ho]; intros; simp), fun y _ hn => ⟨sw.same y hn, rfl⟩⟩
  have hne : ∀ y r, G.own y = r → r ≠ .loc k → y ≠ b := fun y r h1 h2 e => h2 (by rw [← h1, e, ho])
  obtain ⟨o0, ho0⟩ := assocSet_had hs
  have hset := assocSet_some hs
  refine ⟨x.ext, fun y hy => by rw [sw.size]; exact h.own y hy, h.bOf, h.lo_, fun q zs hq => ?_, h.pdz, h.nt, h.loc.step x (fun y q r ho => hne y _ ho (by simp)), h.lam, fun q p hq => ?_, h.ro.step x (fun y q ho => hne y _ ho (by simp)),
    h.tok.step (fun _ _ _ _ h => h) (fun _ _ _ _ h => h) (fun y _ _ _ ho => sw.same y (hne y _ ho (by simp)))⟩
  · obtain ⟨h1, h2, h3⟩ := h.un q zs hq
    refine ⟨h1, ?_, h3⟩
    show assoc hp q = _
    rw [hset, if_neg (fun e => by subst e; rw [hb] at h1; cases h1)]
    exact h2
  · have hq' : assoc hp q = some p := hq
    rw [hset] at hq'
    split at hq'
    · rename_i e
      subst e
      injection hq' with e1
      subst e1
      exact ⟨(h.heap _ _ ho0).1, .inr ⟨b, hb, ho, hr⟩⟩
    · rename_i e
      obtain ⟨h1, h2⟩ := h.heap q p hq'
      refine ⟨h1, h2.imp id fun ⟨y, h3, h4, h5⟩ => ?_⟩
      obtain ⟨h6, h7⟩ := x.same y h5.lt (hne y _ h4 (by simp; exact fun e' => e e'))
      exact ⟨y, h3, h4, h5.ext x.ext h6⟩
theorem MR.chgL (h : MR P E U pd l s G w) {w' : World} {b i g : Nat} {old new : List AVal} (sw : Swap b w w') (hl : l.get (0, []) i = (g, old)) (hb : G.lam i g = some b) (ho : G.own b = .lcl i g) (hh : l.has i = true) (hr : BR G w' b new) :
    Ext G w G w' ∧ MR P E U pd (l.set i (g, new)) s G w' := by
  have x : Step G w G w' (fun y => y = b) := ⟨Ext.chg sw (by rw [ho]; exact fun e => e) (by rw [ho]; intros; simp), fun y _ hn => ⟨sw.same y hn, rfl⟩⟩
  have hne : ∀ y r, G.own y = r → r ≠ .lcl i g → y ≠ b := fun y r h1 h2 e => h2 (by rw [← h1, e, ho])
  have hp : pd i = none := by
    cases e : pd i with
    | none => rfl
    | some zs =>
      have := (h.lam i g b hb).2.2 (by rw [e]; simp)
      rw [hl] at this
      exact absurd this (Nat.lt_irrefl _)
  refine ⟨x.ext, fun y hy => by rw [sw.size]; exact h.own y hy, h.bOf, h.lo_, h.un, fun j zs hj => ?_, h.nt, fun j q ds hj hq hpj => ?_, fun j q y hy => ?_, h.heap.step x (fun y q ho => hne y _ ho (by simp)) (fun _ _ _ h => h), h.ro.step x (fun y q ho => hne y _ ho (by simp)),
    h.tok.step (fun _ _ _ _ h => h) (fun _ _ _ _ h => h) (fun y _ _ _ ho => sw.same y (hne y _ ho (by simp)))⟩
  · rw [Tr.get_set _ _ _ _ _ hh, if_neg (fun e => by subst e; rw [hp] at hj; cases hj)]
    exact h.pdz j zs hj
  · rw [Tr.get_set _ _ _ _ _ hh] at hj
    split at hj
    · rename_i e
      subst e
      injection hj with e1 e2
      subst e1; subst e2
      exact ⟨b, hb, ho, hr⟩
    · rename_i e
      obtain ⟨y, h1, h2, h3⟩ := h.loc j q ds hj hq hpj
      have hyb : y ≠ b := fun e' => by
        subst e'
        rw [ho] at h2
        injection h2 with e1 e2
        exact e e1
      exact ⟨y, h1, h2, h3.ext x.ext (sw.same y hyb)⟩
  · rw [Tr.get_set _ _ _ _ _ hh]
    obtain ⟨h1, h2, h3⟩ := h.lam j q y hy
    split
    · rename_i e
      subst e
      rw [hl] at h2
      exact ⟨h1, h2, fun hn => absurd hp hn⟩
    · exact ⟨h1, h2, h3⟩
theorem lay_get (c : Array Value) (vs : List Value) (off : Nat) (h : off + vs.length ≤ c.size) (i : Nat) :
    (c.toList.take off ++ vs ++ c.toList.drop (off + vs.length)).toArray[i]? = if i < off then c[i]? else if i < off + vs.length then vs[i - off]? else c[i]? := by
  have ht : (c.toList.take off).length = off := by simp; omega
  rw [List.getElem?_toArray, List.append_assoc]
  by_cases h1 : i < off
  · rw [if_pos h1, List.getElem?_append_left (by omega), List.getElem?_take, if_pos h1, Array.getElem?_toList]
  · rw [if_neg h1, List.getElem?_append_right (by omega), ht]
    by_cases h2 : i < off + vs.length
    · rw [if_pos h2, List.getElem?_append_left (by omega)]
    · rw [if_neg h2, List.getElem?_append_right (by omega), List.getElem?_drop, Array.getElem?_toList]
      congr 1
      omega
theorem lay_size (c : Array Value) (vs : List Value) (off : Nat) (h : off + vs.length ≤ c.size) : (c.toList.take off ++ vs ++ c.toList.drop (off + vs.length)).toArray.size = c.size := by
  simp only [List.size_toArray, List.length_append, List.length_take, List.length_drop, Array.length_toList]
  omega
/-- A store into a row of cells: the model's part, and the row's. -/
theorem store_row {b off : Nat} {old cs new : List AVal} (hb : BR G w b old) (ho : over old off cs = some new) {v : Value} {t : TypeId} {n : Option Nat} (hn : shp P t = some n) (hc : cs.length = cnt n) (hr : Rows (VR G w) cs v.cells) :
    ∃ c', (Instr.storeAt t (.pointer (some ⟨b, off, none⟩)) v).run P w = .ok () (w.setRow b c') ∧ ∀ (_ : Ext G w G (w.setRow b c')), BR G (w.setRow b c') b new := by
  obtain ⟨c, E, h1, h2, h3, h4⟩ := hb
  obtain ⟨h5, _⟩ := over_some ho
  obtain ⟨d, i, _, hi, hsz, _⟩ := shp_ok hn
  have hlen : v.cells.toList.length = cs.length := by rw [Array.length_toList]; exact hr.1.symm
  have hfit : off + v.cells.toList.length ≤ c.size := by rw [hlen, h2]; exact h5
  refine ⟨(c.toList.take off ++ v.cells.toList ++ c.toList.drop (off + v.cells.toList.length)).toArray, ?_, fun x => ?_⟩
  · have hst := run_storeCells_at P b off E v.cells.toList 0 c w h1 (by simpa using hfit) (fun u hu => hr.2.1 u (by simpa using hu))
    have hs : v.cells.size = i.size := by rw [← hr.1, hc, hsz]
    simp only [Nat.add_zero] at hst
    simp only [Instr.storeAt, Instr.sureAddr, Sem.run_bind, Sem.run_pure, Result.andThen_ok, storeVar, run_sizeOf' hi, hs, ne_eq, not_true_eq_false, if_false, hst]
  · refine ⟨_, E, setRow_heap w b c _ E (0, 0) h1, ?_, fun u hu => ?_, fun j y u hy hu => ?_⟩
    · rw [lay_size _ _ _ hfit, h2, over_length ho]
    · obtain ⟨j, hj⟩ := Array.getElem?_of_mem hu
      rw [lay_get _ _ _ hfit] at hj
      split at hj
      · exact h3 u (Array.mem_of_getElem? hj)
      · split at hj
        · exact hr.2.1 u (by have := List.mem_of_getElem? hj; simpa using this)
        · exact h3 u (Array.mem_of_getElem? hj)
    · rw [over_get ho] at hy
      rw [lay_get _ _ _ hfit, hlen] at hu
      split at hy
      · rename_i c1; rw [if_pos c1] at hu; exact (h4 j y u hy hu).ext x
      · rename_i c1
        rw [if_neg c1] at hu
        split at hy
        · rename_i c2; rw [if_pos c2] at hu; exact (hr.2.2 _ y u hy (by simpa using hu)).ext x
        · rename_i c2; rw [if_neg c2] at hu; exact (h4 j y u hy hu).ext x
theorem away1_over {off : Nat} {old cs new : List AVal} (ho : over old off cs = some new) (h1 : old.all away1 = true) (h2 : cs.all away1 = true) : new.all away1 = true := by
  obtain ⟨_, rfl⟩ := over_some ho
  simp only [List.all_append, Bool.and_eq_true]
  rw [List.all_eq_true] at h1
  exact ⟨List.all_eq_true.2 fun x hx => h1 x (List.mem_of_mem_take hx), h2, List.all_eq_true.2 fun x hx => h1 x (List.mem_of_mem_drop hx)⟩
theorem ok_store {c c' : Cfg} (h : MR P E U pd c.l c.s G w) (hlh : ∀ i g cs, c.l.get (0, []) i = (g, cs) → g ≠ 0 → c.l.has i = true) (t : TypeId) (x y : Operand) (hop : o.op = .store t x y) {n : Option Nat} (hn : shp P t = some n) {gx gy : Arg} (hx : cArg x = some gx) (hy : cArg y = some gy)
    (hr : ReadsOK G w f a (gx.tmps ++ gy.tmps)) {cs : List AVal} (hc : AVal.cells n (gy.ev f) = some cs) (hs : storeTo c (gx.ev f) cs = some c') :
    c'.f = c.f ∧ c'.h = c.h ∧ c'.rd = c.rd ∧ NextP P (EffP P E U pd G w c'.l c'.s undefA) ((execOp a.eval o).run P w) := by
  have h1 := arg_ok hx fun t ht => hr t (by simp [ht])
  have h2 := arg_ok hy fun t ht => hr t (by simp [ht])
  obtain ⟨hlen, hrows⟩ := cells_rows hc h2
  unfold storeTo at hs
  split at hs <;> try (cases hs; done)
  · rename_i i g off e
    rw [e] at h1
    generalize hli : c.l.get (0, []) i = p at hs
    obtain ⟨g', old⟩ := p
    simp only at hs
    obtain ⟨hb, hs⟩ := cond_none hs
    have e : g = g' := beq_iff.1 hb
    subst e
    simp only [Option.map_eq_some_iff] at hs
    obtain ⟨new, hnew, rfl⟩ := hs
    generalize hxv : a.eval x = xv at h1
    cases h1 with | lptr _ _ _ b hlam =>
    obtain ⟨k1, _, k3⟩ := h.lam i g b hlam
    have hp : pd i = none := by
      cases e : pd i with
      | none => rfl
      | some zs =>
        have := k3 (by rw [e]; simp)
        rw [hli] at this
        exact absurd this (Nat.lt_irrefl _)
    obtain ⟨b', h4, hown, h5⟩ := h.loc i g old hli k1 hp
    rw [hlam] at h4
    cases h4
    obtain ⟨c', hrun, hbr⟩ := store_row h5 hnew hn hlen hrows
    have x := Ext.chg (G := G) (Swap.setRow w b c') (by rw [hown]; exact fun e => e) (by rw [hown]; intros; simp)
    obtain ⟨_, hm⟩ := h.chgL (Swap.setRow w b c') hli hlam hown (hlh i g old hli k1) (hbr x)
    refine ⟨rfl, rfl, rfl, eff_skip (exec_store t _ y hop) (by rw [hxv]; exact hrun) ⟨G, x, hm, .undef⟩⟩
  · rename_i q off e
    rw [e] at h1
    split at hs <;> try (cases hs; done)
    rename_i old hold
    obtain ⟨haw, hs⟩ := cond_none hs
    simp only [Option.bind_eq_some_iff, Option.map_eq_some_iff] at hs
    obtain ⟨new, hnew, hp, hset, rfl⟩ := hs
    generalize hxv : a.eval x = xv at h1
    cases h1 with | ptr _ _ b hb =>
    rcases (h.heap q _ hold).2 with e' | ⟨b', h3, h4, h5⟩
    · rw [hb] at e'; cases e'
    rw [hb] at h3
    cases h3
    obtain ⟨c', hrun, hbr⟩ := store_row h5.1 hnew hn hlen hrows
    have x := Ext.chg (G := G) (Swap.setRow w b c') (by rw [h4]; exact fun e => e) (by rw [h4]; intros; simp)
    obtain ⟨_, hm⟩ := h.chgH (Swap.setRow w b c') hb h4 hset ⟨hbr x, away1_over hnew h5.2 haw⟩
    exact ⟨rfl, rfl, rfl, eff_skip (exec_store t _ y hop) (by rw [hxv]; exact hrun) ⟨G, x, hm, .undef⟩⟩
end Go.AI

/- Operations with effects: slices that grow. -/
namespace Go.AI
variable {P : Program} {E : Heap} {U pd : Nat → Option (List AVal)} {l : Tr (Nat × List AVal)} {s : ASt} {G : Gh} {w w' : World} {f : Tr AVal} {a : Act} {o : Oper} {v : AVal}

/-! ### Tokens -/
def Gh.addT (G : Gh) (b t n sz : Nat) : Gh := { G with own := upd G.own b (.tok t n sz), nt := G.nt + 1 }
def Gh.setT (G : Gh) (b t n sz : Nat) : Gh := { G with own := upd G.own b (.tok t n sz) }
def Gh.movT (G : Gh) (b nb t n sz : Nat) : Gh := { G with own := upd (upd G.own b .free) nb (.tok t n sz) }

theorem MR.addT (h : MR P E U pd l s G w) (k : Keep w w') {b n sz : Nat} (hb : w.heap.size ≤ b) (hb' : b < w'.heap.size) (hz : 0 < sz) {c : Array Value} {ty : TypeId} (hc : w'.heap[b]? = some (.cells c ty (0, 0))) (hn : n * sz ≤ c.size) :
    Ext G w (G.addT b s.ntok n sz) w' ∧ MR P E U pd l { s with ntok := s.ntok + 1, toks := (s.ntok, n, sz) :: s.toks } (G.addT b s.ntok n sz) w' := by
  have hf := h.free hb
  have x : Step G w (G.addT b s.ntok n sz) w' (fun y => y = b) :=
    ⟨Ext.new k hb (fun y hy => upd_ne _ _ _ hy) hf (fun _ _ h => h) (fun _ _ _ h => h) (Nat.le_succ _) rfl (fun _ _ => rfl) (fun t n' sz' e => by
      simp only [Gh.addT, upd_eq, Own.tok.injEq] at e
      rw [h.nt, e.1]
      exact Nat.le_refl _), fun y hy hn => ⟨k.same y hy, upd_ne _ _ _ hn⟩⟩
  have hne : ∀ y r, G.own y = r → r ≠ .free → y ≠ b := fun y r h1 h2 e => h2 (by rw [← h1, e, hf])
  refine ⟨x.ext, fun y hy => ?_, h.bOf, h.lo_, h.un, h.pdz, by show G.nt + 1 = s.ntok + 1; rw [h.nt], h.loc.step x (fun y q r ho => hne y _ ho (by simp)), h.lam, h.heap.step x (fun y q ho => hne y _ ho (by simp)) (fun _ _ _ h => h), h.ro.step x (fun y q ho => hne y _ ho (by simp)), ?_, ?_, ?_⟩
  · by_cases e : y = b
    · subst e; exact hb'
    · simp only [Gh.addT] at hy
      rw [upd_ne _ _ _ e] at hy
      exact Nat.lt_of_lt_of_le (h.own y hy) k.size
  · intro t m z ht
    have ht' : assoc ((s.ntok, n, sz) :: s.toks) t = some (m, z) := ht
    rw [assoc_cons] at ht'
    split at ht'
    · rename_i e
      subst e
      injection ht' with e1
      injection e1 with e1 e2
      subst e1; subst e2
      exact ⟨Nat.lt_succ_self _, b, by simp [Gh.addT, upd_eq]⟩
    · obtain ⟨h1, y, h2⟩ := h.tok.1 t m z ht'
      exact ⟨Nat.lt_succ_of_lt h1, y, by simp only [Gh.addT]; rw [upd_ne _ _ _ (hne y _ h2 (by simp))]; exact h2⟩
  · intro y t m z hy
    by_cases e : y = b
    · subst e
      simp only [Gh.addT, upd_eq, Own.tok.injEq] at hy
      obtain ⟨rfl, rfl, rfl⟩ := hy
      exact ⟨Nat.lt_succ_self _, hz, c, ty, hc, hn⟩
    · simp only [Gh.addT] at hy
      rw [upd_ne _ _ _ e] at hy
      obtain ⟨h1, h2, c', ty', h3, h4⟩ := h.tok.2.1 y t m z hy
      exact ⟨Nat.lt_succ_of_lt h1, h2, c', ty', by rw [k.same y (h.own y (by rw [hy]; simp))]; exact h3, h4⟩
  · intro y y' t m m' z z' hy hy'
    simp only [Gh.addT] at hy hy'
    by_cases e : y = b <;> by_cases e' : y' = b
    · rw [e, e']
    · exfalso
      subst e
      rw [upd_eq] at hy
      rw [upd_ne _ _ _ e'] at hy'
      injection hy with q1
      have := (h.tok.2.1 y' t m' z' hy').1
      omega
    · exfalso
      subst e'
      rw [upd_eq] at hy'
      rw [upd_ne _ _ _ e] at hy
      injection hy' with q1
      have := (h.tok.2.1 y t m z hy).1
      omega
    · rw [upd_ne _ _ _ e] at hy
      rw [upd_ne _ _ _ e'] at hy'
      exact h.tok.2.2 y y' t m m' z z' hy hy'

/-- The latest slice of a token grows where it is. -/
theorem MR.setT (h : MR P E U pd l s G w) {b t n n' sz : Nat} (sw : Swap b w w') (ho : G.own b = .tok t n sz) (hnn : n ≤ n') {c c' : Array Value} {ty : TypeId} (hc : w.heap[b]? = some (.cells c ty (0, 0))) (hc' : w'.heap[b]? = some (.cells c' ty (0, 0)))
    (hsz : c'.size = c.size) (hn : n' * sz ≤ c.size) (hsame : ∀ i, i < n * sz → c'[i]? = c[i]?) {ts : List (Nat × Nat × Nat)} (hts : assocSet s.toks t (n', sz) = some ts) :
    Ext G w (G.setT b t n' sz) w' ∧ MR P E U pd l { s with toks := ts } (G.setT b t n' sz) w' := by
  have hne : ∀ y r, G.own y = r → r ≠ .tok t n sz → y ≠ b := fun y r h1 h2 e => h2 (by rw [← h1, e, ho])
  obtain ⟨ht0, hz0, _⟩ := h.tok.2.1 b t n sz ho
  have hset := assocSet_some hts
  have hx : Ext G w (G.setT b t n' sz) w' := {
    size := by rw [sw.size]; exact Nat.le_refl _
    os := sw.os
    tape := sw.tape
    output := sw.output
    still := fun y _ hs => by
      have e : y ≠ b := fun e => by subst e; rw [ho] at hs; exact hs
      exact ⟨sw.same y e, upd_ne _ _ _ e⟩
    tok := fun y t1 n1 z1 _ h1 => by
      by_cases e : y = b
      · subst e
        rw [ho] at h1
        injection h1 with e1 e2 e3
        subst e1; subst e2; subst e3
        refine ⟨fun i u hi hu => ?_, .inr ⟨n', hnn, by simp [Gh.setT, upd_eq]⟩⟩
        unfold World.cell? at hu ⊢
        simp only [hc] at hu
        simp only [hc']
        simp only [Option.isSome_none, Bool.false_eq_true, if_false] at hu ⊢
        rw [hsame i hi]
        exact hu
      · refine ⟨fun i u _ hu => ?_, .inr ⟨n1, Nat.le_refl _, by simp only [Gh.setT]; rw [upd_ne _ _ _ e]; exact h1⟩⟩
        unfold World.cell? at hu ⊢
        rw [sw.same y e]
        exact hu
    shape := fun y t1 n1 z1 c1 E1 h1 h2 _ => by
      by_cases e : y = b
      · subst e
        rw [hc] at h2
        injection h2 with h2
        injection h2 with e1 e2
        subst e1; subst e2
        exact ⟨c', hc', hsz⟩
      · exact ⟨c1, by rw [sw.same y e]; exact h2, rfl⟩
    loc := fun y q h1 => by simp only [Gh.setT]; rw [upd_ne _ _ _ (hne y _ h1 (by simp))]; exact h1
    lcl := fun y i g h1 => by simp only [Gh.setT]; rw [upd_ne _ _ _ (hne y _ h1 (by simp))]; exact h1
    bOf := fun _ _ h => h
    lam := fun _ _ _ h => h
    nt := Nat.le_refl _
    cold := sw.cold
    lo_ := rfl
    low := fun _ _ => rfl
    old := fun y t1 m1 z1 h1 _ => by
      by_cases e : y = b
      · subst e
        simp only [Gh.setT, upd_eq, Own.tok.injEq] at h1
        obtain ⟨rfl, rfl, rfl⟩ := h1
        exact ⟨y, n, ho, hnn, fun _ => rfl⟩
      · simp only [Gh.setT] at h1
        rw [upd_ne _ _ _ e] at h1
        exact ⟨y, m1, h1, Nat.le_refl _, fun _ => rfl⟩ }
  have x : Step G w (G.setT b t n' sz) w' (fun y => y = b) := ⟨hx, fun y _ hn => ⟨sw.same y hn, upd_ne _ _ _ hn⟩⟩
  refine ⟨hx, fun y hy => ?_, h.bOf, h.lo_, h.un, h.pdz, h.nt, h.loc.step x (fun y q r ho => hne y _ ho (by simp)), h.lam, h.heap.step x (fun y q ho => hne y _ ho (by simp)) (fun _ _ _ h => h), h.ro.step x (fun y q ho => hne y _ ho (by simp)), ?_, ?_, ?_⟩
  · rw [sw.size]
    by_cases e : y = b
    · subst e; exact h.own y (by rw [ho]; simp)
    · simp only [Gh.setT] at hy
      rw [upd_ne _ _ _ e] at hy
      exact h.own y hy
  · intro t1 m z ht
    have ht' : assoc ts t1 = some (m, z) := ht
    rw [hset] at ht'
    split at ht'
    · rename_i e
      subst e
      injection ht' with e1
      injection e1 with e1 e2
      subst e1; subst e2
      exact ⟨ht0, b, by simp [Gh.setT, upd_eq]⟩
    · rename_i e
      obtain ⟨h1, y, h2⟩ := h.tok.1 t1 m z ht'
      exact ⟨h1, y, by simp only [Gh.setT]; rw [upd_ne _ _ _ (hne y _ h2 (fun q => by injection q with q1; exact e q1))]; exact h2⟩
  · intro y t1 m z hy
    by_cases e : y = b
    · subst e
      simp only [Gh.setT, upd_eq, Own.tok.injEq] at hy
      obtain ⟨rfl, rfl, rfl⟩ := hy
      exact ⟨ht0, hz0, c', ty, hc', by rw [hsz]; exact hn⟩
    · simp only [Gh.setT] at hy
      rw [upd_ne _ _ _ e] at hy
      obtain ⟨h1, h2, c', ty', h3, h4⟩ := h.tok.2.1 y t1 m z hy
      exact ⟨h1, h2, c', ty', by rw [sw.same y e]; exact h3, h4⟩
  · intro y y' t1 m m' z z' hy hy'
    have back : ∀ y m z, (G.setT b t n' sz).own y = .tok t1 m z → ∃ m z, G.own y = .tok t1 m z := by
      intro y m z hy
      by_cases e : y = b
      · subst e
        simp only [Gh.setT, upd_eq, Own.tok.injEq] at hy
        exact ⟨n, sz, by rw [ho, hy.1]⟩
      · simp only [Gh.setT] at hy
        rw [upd_ne _ _ _ e] at hy
        exact ⟨m, z, hy⟩
    obtain ⟨q, p, h1⟩ := back y m z hy
    obtain ⟨q', p', h2⟩ := back y' m' z' hy'
    exact h.tok.2.2 y y' t1 q q' p p' h1 h2

/-- It moves to a new block. -/
theorem MR.movT (h : MR P E U pd l s G w) {b nb t n n' sz : Nat} (k : Keep w w') (ho : G.own b = .tok t n sz) (hnn : n < n') (hb : w.heap.size ≤ nb) (hb' : nb < w'.heap.size) {c' : Array Value} {ty : TypeId} (hc' : w'.heap[nb]? = some (.cells c' ty (0, 0)))
    (hn : n' * sz ≤ c'.size) {ts : List (Nat × Nat × Nat)} (hts : assocSet s.toks t (n', sz) = some ts) :
    Ext G w (G.movT b nb t n' sz) w' ∧ MR P E U pd l { s with toks := ts } (G.movT b nb t n' sz) w' := by
  have hf := h.free hb
  have hnb : nb ≠ b := fun e => by rw [e, ho] at hf; cases hf
  have hne : ∀ y r, G.own y = r → r ≠ .free → y ≠ nb := fun y r h1 h2 e => h2 (by rw [← h1, e, hf])
  have hnb' : ∀ y r, G.own y = r → r ≠ .tok t n sz → y ≠ b := fun y r h1 h2 e => h2 (by rw [← h1, e, ho])
  obtain ⟨ht0, hz0, _⟩ := h.tok.2.1 b t n sz ho
  have hset := assocSet_some hts
  have howns : ∀ y, y ≠ b → y ≠ nb → (G.movT b nb t n' sz).own y = G.own y := fun y h1 h2 => by
    simp only [Gh.movT]
    rw [upd_ne _ _ _ h2, upd_ne _ _ _ h1]
  have hownb : (G.movT b nb t n' sz).own b = .free := by
    simp only [Gh.movT]
    rw [upd_ne _ _ _ (fun e => hnb e.symm), upd_eq]
  have hownn : (G.movT b nb t n' sz).own nb = .tok t n' sz := by
    simp only [Gh.movT]
    rw [upd_eq]
  have hblt : b < w.heap.size := h.own b (by rw [ho]; simp)
  have hx : Ext G w (G.movT b nb t n' sz) w' := {
    size := k.size
    os := k.os
    tape := k.tape
    output := k.output
    still := fun y hy hs => by
      have e : y ≠ b := fun e => by subst e; rw [ho] at hs; exact hs
      exact ⟨k.same y hy, howns y e (by omega)⟩
    tok := fun y t1 n1 z1 hy h1 => by
      refine ⟨fun i u _ hu => ?_, ?_⟩
      · unfold World.cell? at hu ⊢
        rw [k.same y hy]
        exact hu
      · by_cases e : y = b
        · subst e; exact .inl hownb
        · exact .inr ⟨n1, Nat.le_refl _, by rw [howns y e (by omega)]; exact h1⟩
    shape := fun y t1 n1 z1 c1 E1 h1 h2 _ => ⟨c1, by rw [k.same y (Array.getElem?_eq_some_iff.1 h2).1]; exact h2, rfl⟩
    loc := fun y q h1 => by rw [howns y (hnb' y _ h1 (by simp)) (hne y _ h1 (by simp))]; exact h1
    lcl := fun y i g h1 => by rw [howns y (hnb' y _ h1 (by simp)) (hne y _ h1 (by simp))]; exact h1
    bOf := fun _ _ h => h
    lam := fun _ _ _ h => h
    nt := Nat.le_refl _
    cold := k.cold
    lo_ := rfl
    low := fun _ _ => rfl
    old := fun y t1 m1 z1 h1 _ => by
      by_cases e : y = nb
      · subst e
        rw [hownn] at h1
        injection h1 with e1 e2 e3
        subst e1; subst e2; subst e3
        exact ⟨b, n, ho, by omega, fun e => by omega⟩
      · by_cases e' : y = b
        · subst e'; rw [hownb] at h1; cases h1
        · rw [howns y e' e] at h1
          exact ⟨y, m1, h1, Nat.le_refl _, fun _ => rfl⟩ }
  have x : Step G w (G.movT b nb t n' sz) w' (fun y => y = b ∨ y = nb) := ⟨hx, fun y hy hn => ⟨k.same y hy, howns y (fun e => hn (.inl e)) (fun e => hn (.inr e))⟩⟩
  have hX : ∀ y r, G.own y = r → r ≠ .tok t n sz → r ≠ .free → ¬ (y = b ∨ y = nb) := fun y r h1 h2 h3 h4 => h4.elim (hnb' y r h1 h2) (hne y r h1 h3)
  refine ⟨hx, fun y hy => ?_, h.bOf, h.lo_, h.un, h.pdz, h.nt, h.loc.step x (fun y q r ho => hX y _ ho (by simp) (by simp)), h.lam, h.heap.step x (fun y q ho => hX y _ ho (by simp) (by simp)) (fun _ _ _ h => h), h.ro.step x (fun y q ho => hX y _ ho (by simp) (by simp)), ?_, ?_, ?_⟩
  · by_cases e : y = nb
    · subst e; exact hb'
    · by_cases e' : y = b
      · subst e'; exact absurd hownb hy
      · rw [howns y e' e] at hy
        exact Nat.lt_of_lt_of_le (h.own y hy) k.size
  · intro t1 m z ht
    have ht' : assoc ts t1 = some (m, z) := ht
    rw [hset] at ht'
    split at ht'
    · rename_i e
      subst e
      injection ht' with e1
      injection e1 with e1 e2
      subst e1; subst e2
      exact ⟨ht0, nb, hownn⟩
    · rename_i e
      obtain ⟨h1, y, h2⟩ := h.tok.1 t1 m z ht'
      exact ⟨h1, y, by rw [howns y (hnb' y _ h2 (fun q => by injection q with q1; exact e q1)) (hne y _ h2 (by simp))]; exact h2⟩
  · intro y t1 m z hy
    by_cases e : y = nb
    · subst e
      rw [hownn] at hy
      injection hy with e1 e2 e3
      subst e1; subst e2; subst e3
      exact ⟨ht0, hz0, c', ty, hc', hn⟩
    · by_cases e' : y = b
      · subst e'; rw [hownb] at hy; cases hy
      · rw [howns y e' e] at hy
        obtain ⟨h1, h2, c', ty', h3, h4⟩ := h.tok.2.1 y t1 m z hy
        exact ⟨h1, h2, c', ty', by rw [k.same y (h.own y (by rw [hy]; simp))]; exact h3, h4⟩
  · intro y y' t1 m m' z z' hy hy'
    have back : ∀ y m z, (G.movT b nb t n' sz).own y = .tok t1 m z → (y = nb ∧ t1 = t) ∨ (y ≠ b ∧ G.own y = .tok t1 m z) := by
      intro y m z hy
      by_cases e : y = nb
      · subst e
        rw [hownn] at hy
        injection hy with e1
        exact .inl ⟨rfl, e1.symm⟩
      · by_cases e' : y = b
        · subst e'; rw [hownb] at hy; cases hy
        · rw [howns y e' e] at hy
          exact .inr ⟨e', hy⟩
    rcases back y m z hy with ⟨e1, e2⟩ | ⟨e1, e2⟩ <;> rcases back y' m' z' hy' with ⟨e3, e4⟩ | ⟨e3, e4⟩
    · rw [e1, e3]
    · subst e2
      exact absurd (h.tok.2.2 y' b t1 _ _ _ _ e4 ho) e3
    · subst e4
      exact absurd (h.tok.2.2 y b t1 _ _ _ _ e2 ho) e1
    · exact h.tok.2.2 y y' t1 _ _ _ _ e2 e4
end Go.AI

/- Operations with effects: append, make. -/
namespace Go.AI
variable {P : Program} {E : Heap} {U pd : Nat → Option (List AVal)} {l : Tr (Nat × List AVal)} {s : ASt} {G : Gh} {w w' : World} {f : Tr AVal} {a : Act} {o : Oper} {v : AVal}

theorem PR.vals {S : Nat → Nat → Prop} {n : Nat} {cs : List PVal} {ad : Option Addr} {cap : Nat} (h : PR S w (.sl n cs) (.slice ad n cap)) :
    ∃ vs : List Value, n ≤ cap ∧ (n = 0 ↔ cs = []) ∧ Rows (PR S w) cs vs.toArray ∧ ∀ (i : Nat) v, vs[i]? = some v → ∃ x, ad = some x ∧ w.cell? (x.add i) = some v := by
  cases h with
  | sl _ _ _ _ vs hn hl hz h1 hc h =>
    exact ⟨vs, hn, hz, ⟨by simpa using hl, by simpa using h1, fun i c v hc hv => h i c v hc (by simpa using hv)⟩, fun i v hv => by
      obtain ⟨x, e, h2, _⟩ := hc i v hv
      exact ⟨x, e, h2⟩⟩
theorem first_ok {sz n cap : Nat} {ad : Option Addr} {vs : List Value} (hl : vs.length = n * sz) (h0 : n = 0 ↔ vs = []) (hc : ∀ (i : Nat) v, vs[i]? = some v → ∃ x, ad = some x ∧ w.cell? (x.add i) = some v) :
    (Builtin.firstCells sz n (.slice ad n cap)).run P w = .ok vs.toArray w := by
  cases ad with
  | none =>
    cases vs with
    | nil =>
      have := h0.2 rfl
      subst this
      exact run_firstCells_none w sz 0 0 cap
    | cons v vs => obtain ⟨_, e, _⟩ := hc 0 v rfl; cases e
  | some x => exact run_firstCells_some w sz n x n cap vs hl (fun j u hu => by
      obtain ⟨x', e, h⟩ := hc j u hu
      cases e
      exact h)
theorem src_ok {sz n cap : Nat} {tx e' : TypeId} (hk : P.underlying tx = some (.slice e')) {ad : Option Addr} {vs : List Value} (hl : vs.length = n * sz) (h0 : n = 0 ↔ vs = []) (hc : ∀ (i : Nat) v, vs[i]? = some v → ∃ x, ad = some x ∧ w.cell? (x.add i) = some v)
    (h1 : ∀ u ∈ vs, u.oneCell' = true) : Src P sz tx (.slice ad n cap) n vs w :=
  ⟨.inl ⟨e', hk⟩, fun _ => rfl, first_ok hl h0 hc, first_ok hl h0 (fun i v hv => by simpa using hc i v hv), hl, h1⟩
/-- Room enough in the block itself. -/
theorem run_append_here {t tx ty e e' : TypeId} {i : TypeInfo} (ht : P.underlying t = some (.slice e)) (hk : P.underlying tx = some (.slice e')) (hi : P.info? e = some i) {b n cap m : Nat} {c : Array Value} {E0 : TypeId} (hb : w.heap[b]? = some (.cells c E0 (0, 0)))
    {x : Value} {news : List Value} (hs : Src P i.size tx x m news w) (hroom : n + m ≤ cap) (hfit : n * i.size + news.length ≤ c.size) :
    (Builtin.append_ #[t, tx] ty #[.slice (some ⟨b, 0, none⟩) n cap, x]).run P w =
      .ok (.slice (some ⟨b, 0, none⟩) (n + m) cap) (w.setRow b (c.toList.take (n * i.size) ++ news ++ c.toList.drop (n * i.size + news.length)).toArray) := by
  have hst := run_storeCells_at P b (n * i.size) E0 news 0 c w hb (by simpa using hfit) hs.one
  simp only [Nat.add_zero] at hst
  simp [Builtin.append_, run_underlying ht, run_underlying hk, sizeOf, typeInfo, hi, hs.len, hroom, hs.cells, Addr.add_lit, hst]

theorem Rows.pext {G' : Gh} (x : Ext G w G' w') {cs : List PVal} {c : Array Value} (h : Rows (PR G.S w) cs c) : Rows (PR G'.S w') cs c := ⟨h.1, h.2.1, fun i a v ha hv => (h.2.2 i a v ha hv).ext x⟩
theorem Rows.append {α : Type} {R : α → Value → Prop} {xs ys : List α} {us vs : List Value} (h : Rows R xs us.toArray) (k : Rows R ys vs.toArray) : Rows R (xs ++ ys) (us ++ vs).toArray := by
  have hl : xs.length = us.length := by simpa using h.1
  refine ⟨by have := k.1; simp at this ⊢; omega, fun v hv => ?_, fun i c v hc hv => ?_⟩
  · simp only [List.mem_toArray, List.mem_append] at hv
    rcases hv with hv | hv
    · exact h.2.1 v (by simpa using hv)
    · exact k.2.1 v (by simpa using hv)
  · rw [List.getElem?_toArray] at hv
    by_cases hi : i < xs.length
    · rw [List.getElem?_append_left hi] at hc
      rw [List.getElem?_append_left (by omega)] at hv
      exact h.2.2 i c v hc (by simpa using hv)
    · rw [List.getElem?_append_right (by omega)] at hc
      rw [List.getElem?_append_right (by omega)] at hv
      exact k.2.2 (i - xs.length) c v hc (by rw [List.getElem?_toArray, hl]; exact hv)
/-- A row that lies at the head of a block. -/
theorem PR.head {S : Nat → Nat → Prop} {b n cap : Nat} {cs : List PVal} {vs : List Value} {c : Array Value} {E0 : TypeId} (hb : w.heap[b]? = some (.cells c E0 (0, 0))) (hr : Rows (PR S w) cs vs.toArray) (hz : n = 0 ↔ cs = []) (hn : n ≤ cap)
    (hc : ∀ i, i < vs.length → c[i]? = vs[i]?) (hS : ∀ i, i < vs.length → S b i) : PR S w (.sl n cs) (.slice (some ⟨b, 0, none⟩) n cap) := by
  refine .sl n cs _ cap vs hn (by simpa using hr.1) hz (fun u hu => hr.2.1 u (by simpa using hu)) (fun i u hu => ?_) (fun i c u hc hu => hr.2.2 i c u hc (by simpa using hu))
  have hi : i < vs.length := (List.getElem?_eq_some_iff.1 hu).1
  refine ⟨_, rfl, ?_, ?_⟩
  · rw [add_mk]
    unfold World.cell?
    simp only [hb, Option.isSome_none, Bool.false_eq_true, if_false]
    simp only [Nat.zero_add]
    rw [hc i hi]
    exact hu
  · simpa using hS i hi

theorem tok_S {G : Gh} {b t n sz i : Nat} (h : G.own b = .tok t n sz) (hi : i < n * sz) : G.S b i := by unfold Gh.S; rw [h]; exact hi
theorem zero_size {e : TypeId} {i : TypeInfo} (hi : P.info? e = some i) (h : (zeroCells P e).isSome = true) : ∃ z, i.zero = some z ∧ z.cells.size = i.size := by
  obtain ⟨cs, hcs⟩ := Option.isSome_iff_exists.1 h
  obtain ⟨i', z, n, hi', hz, hn, hl, hr, _⟩ := zeroCells_ok (P := P) ⟨fun _ => .free, fun _ => none, fun _ _ => none, 0, 0⟩ default hcs
  rw [hi] at hi'
  cases hi'
  obtain ⟨_, i'', _, hi'', hsz, _⟩ := shp_ok hn
  rw [hi] at hi''
  cases hi''
  exact ⟨z, hz, by rw [← hr.1, hl, hsz]⟩

theorem ok_app (h : MR P E U pd l s G w) (c : Call) (hop : o.op = .call c) (hc : c.callee = .builtin .append) {x y : Operand} (hxs : c.args.toList = [x, y]) {t u e e' : TypeId} (hts : c.argTypes.toList = [t, u]) (ht : P.underlying t = some (.slice e)) (hu : P.underlying u = some (.slice e'))
    {i : TypeInfo} (hi : P.info? e = some i) (hsz : 0 < i.size) (hby : 0 < i.bytes) (hzc : (zeroCells P e).isSome = true) {gx gy : Arg} (hx : cArg x = some gx) (hy : cArg y = some gy) (hr : ReadsOK G w f a (gx.tmps ++ gy.tmps))
    {m n : Nat} {cs new : List PVal} {tk : Tk} (hnew : rowOf (gy.ev f) = some (m, new)) (hsv : gx.ev f = .sl n cs tk) (hle : (n + m) * i.bytes ≤ 140737488355328) (hnl : new.length = m * i.size) :
    (m = 0 → NextP P (EffP P E U pd G w l s (.sl n cs tk)) ((execOp a.eval o).run P w)) ∧
    (m ≠ 0 → tk = .full → cs.length = n * i.size → NextP P (EffP P E U pd G w l { s with ntok := s.ntok + 1, toks := (s.ntok, n + m, i.size) :: s.toks } (.sl (n + m) (cs ++ new) (.own s.ntok))) ((execOp a.eval o).run P w)) ∧
    (m ≠ 0 → ∀ t ts, tk = .own t → assoc s.toks t = some (n, i.size) → assocSet s.toks t (n + m, i.size) = some ts → NextP P (EffP P E U pd G w l { s with toks := ts } (.sl (n + m) (cs ++ new) (.own t))) ((execOp a.eval o).run P w)) := by
  have h1 := arg_ok hx fun t ht => hr t (by simp [ht])
  have h2 := arg_ok hy fun t ht => hr t (by simp [ht])
  have he : execOp a.eval o = (do pure (.value (← Builtin.append_ #[t, u] o.type #[a.eval x, a.eval y]))) := by
    rw [exec_builtin c hop .append hc, list2 hxs, list2 hts]; simp [builtin]
  obtain ⟨ad, cap, ey, hpy⟩ := row_inv hnew h2
  obtain ⟨news, _, hnz, hrn, hcn⟩ := hpy.vals
  have hnl' : news.length = m * i.size := by have := hrn.1; simp at this; omega
  have hm0 : m = 0 ↔ news = [] := by
    constructor
    · intro e; rw [e, Nat.zero_mul] at hnl'; exact List.length_eq_zero_iff.1 hnl'
    · intro e
      rw [e] at hnl'
      rcases Nat.eq_zero_or_pos m with e1 | e1
      · exact e1
      · have := Nat.mul_pos e1 hsz
        simp at hnl'
        omega
  have hsrc : Src P i.size u (.slice ad m cap) m news w := src_ok hu hnl' hm0 hcn (fun u hu => hrn.2.1 u (by simpa using hu))
  obtain ⟨z, hz, hzs⟩ := zero_size hi hzc
  have h63 : ((n + m : Nat) : Int) ≤ 9223372036854775807 := by
    have : n + m ≤ (n + m) * i.bytes := Nat.le_mul_of_pos_right _ hby
    omega
  -- the old row
  have hrow : rowOf (gx.ev f) = some (n, cs) := by rw [hsv]; rfl
  obtain ⟨bd, bc, ex, hpx⟩ := row_inv hrow h1
  obtain ⟨olds, hnc, hoz, hro, hco⟩ := hpx.vals
  have hol : olds.length = cs.length := by have := hro.1; simp at this; omega
  refine ⟨fun em => ?_, fun em etk ecs => ?_, fun em t1 ts etk ets hset => ?_⟩
  · subst em
    have : news = [] := hm0.1 rfl
    subst this
    refine eff_of (u := a.eval x) (w' := w) he ?_ ⟨G, Ext.refl G w, h, by rw [← hsv]; exact h1⟩
    rw [ex, ey]
    exact run_append_nothing w t u o.type e i ht hi bd n bc hnc _ hsrc
  · -- a full one: a new block
    subst etk
    rw [hsv] at h1
    have hbc : bc = n := by
      rw [ex] at h1
      cases h1
      rfl
    subst hbc
    have hfo : (Builtin.firstCells i.size bc (.slice bd bc bc)).run P w.drew = .ok olds.toArray w.drew := first_ok (by omega) (by
      constructor
      · intro e0; rw [hoz] at e0; rw [e0] at hol; exact List.length_eq_zero_iff.1 (by simpa using hol)
      · intro e0; rw [hoz]; rw [e0] at hol; exact List.length_eq_zero_iff.1 (by simpa using hol.symm)) (fun j v hv => by simpa using hco j v hv)
    have hrun := run_append_grow_src w t u o.type e i z ht hi hz bd bc bc olds hfo (.slice ad m cap) m news hsrc (by omega) h63 (growslice_fits (by omega) hle)
    generalize hcap' : grownCap w (bc + m) bc e = cap' at hrun
    have hge : bc + m ≤ cap' := by rw [← hcap']; exact grownCap_ge w _ _ _
    have k : Keep w (w.drew.alloc (.cells ((olds ++ news).toArray ++ Builtin.zeroCells z.cells (cap' - (bc + m))) e)) := (Keep.drew w).trans (Keep.alloc _ _)
    have hheap := heap_alloc_new w.drew (.cells ((olds ++ news).toArray ++ Builtin.zeroCells z.cells (cap' - (bc + m))) e)
    have hdsz : w.drew.heap.size = w.heap.size := rfl
    rw [hdsz] at hheap
    have hcsz : ((olds ++ news).toArray ++ Builtin.zeroCells z.cells (cap' - (bc + m))).size = cap' * i.size := by
      rw [Array.size_append, size_zeroCells, hzs]
      simp only [List.size_toArray, List.length_append, hol, ecs, hnl', ← Nat.add_mul]
      congr 1
      omega
    have hlt : w.heap.size < (w.drew.alloc (.cells ((olds ++ news).toArray ++ Builtin.zeroCells z.cells (cap' - (bc + m))) e)).heap.size := by simp
    obtain ⟨x1, m1⟩ := h.addT k (n := bc + m) (sz := i.size) (Nat.le_refl _) hlt hsz hheap (by rw [hcsz]; exact Nat.mul_le_mul_right _ hge)
    have hown : (G.addT w.heap.size s.ntok (bc + m) i.size).own w.heap.size = .tok s.ntok (bc + m) i.size := by simp [Gh.addT, upd_eq]
    refine eff_of he (by rw [ex, ey]; exact hrun) ⟨_, x1, m1, .own _ _ _ _ _ ?_ ?_⟩
    · refine PR.head hheap ((hro.append hrn).pext x1) ?_ hge (fun j hj => ?_) (fun j hj => tok_S hown (by simp only [List.length_append, hol, ecs, hnl', ← Nat.add_mul] at hj; exact hj))
      · have : new ≠ [] := fun e0 => em (hnz.2 e0)
        simp [em, this]
      · rw [Array.getElem?_append_left (by simpa using hj)]; simp
    · refine ⟨by show s.ntok < G.nt + 1; rw [h.nt]; exact Nat.lt_succ_self _, fun b q p hb => ?_⟩
      have hb' : b = w.heap.size := m1.tok.2.2 b w.heap.size _ _ _ _ _ hb hown
      subst hb'
      rw [hown] at hb
      injection hb with e1 e2 e3
      subst e2; subst e3
      exact ⟨Nat.le_refl _, fun _ => ⟨rfl, by simp only [List.length_append, ecs, hnl, Nat.add_mul], hsz, _, _, hheap, hcsz⟩⟩
  · -- its own
    subst etk
    rw [hsv, ex] at h1
    obtain ⟨hr1, hr2⟩ : Right G w n cs t1 bd bc := by cases h1; assumption
    obtain ⟨_, b, hb⟩ := h.tok.1 t1 n i.size ets
    obtain ⟨_, hr3⟩ := hr2 b n i.size hb
    obtain ⟨ebd, ecs, _, c0, E0, hheap0, hc0⟩ := hr3 rfl
    subst ebd
    have hfo0 : n = 0 ↔ olds = [] := by
      constructor
      · intro e0; rw [hoz] at e0; rw [e0] at hol; exact List.length_eq_zero_iff.1 (by simpa using hol)
      · intro e0; rw [hoz]; rw [e0] at hol; exact List.length_eq_zero_iff.1 (by simpa using hol.symm)
    have hne : new ≠ [] := fun e0 => em (hnz.2 e0)
    by_cases hroom : n + m ≤ bc
    · have hfit : n * i.size + news.length ≤ c0.size := by rw [hnl', hc0, ← Nat.add_mul]; exact Nat.mul_le_mul_right _ hroom
      have hrun := run_append_here (ty := o.type) ht hu hi hheap0 hsrc hroom hfit
      have hheap1 := setRow_heap w b c0 (c0.toList.take (n * i.size) ++ news ++ c0.toList.drop (n * i.size + news.length)).toArray E0 (0, 0) hheap0
      have hget := lay_get c0 news (n * i.size) hfit
      have hsize := lay_size c0 news (n * i.size) hfit
      obtain ⟨x1, m1⟩ := h.setT (n' := n + m) (Swap.setRow w b _) hb (Nat.le_add_right _ _) hheap0 hheap1 hsize (by rw [hc0]; exact Nat.mul_le_mul_right _ hroom) (fun j hj => by rw [hget, if_pos hj]) hset
      have hown : (G.setT b t1 (n + m) i.size).own b = .tok t1 (n + m) i.size := by simp [Gh.setT, upd_eq]
      refine eff_of he (by rw [ex, ey]; exact hrun) ⟨_, x1, m1, .own _ _ _ _ _ ?_ ?_⟩
      · refine PR.head hheap1 ((hro.append hrn).pext x1) (by simp [em, hne]) hroom (fun j hj => ?_) (fun j hj => tok_S hown (by simp only [List.length_append, hol, ecs, hnl', ← Nat.add_mul] at hj; exact hj))
        rw [hget]
        simp only [List.length_append] at hj
        by_cases c1 : j < n * i.size
        · rw [if_pos c1, List.getElem?_append_left (by omega)]
          have hj' : j < olds.length := by omega
          obtain ⟨x', e1, e2⟩ := hco j _ (List.getElem?_eq_getElem hj')
          cases e1
          rw [add_mk] at e2
          unfold World.cell? at e2
          simp only [hheap0, Option.isSome_none, Bool.false_eq_true, if_false, Nat.zero_add] at e2
          rw [e2, List.getElem?_eq_getElem hj']
        · rw [if_neg c1, if_pos (by omega), List.getElem?_append_right (by omega)]
          congr 1
          omega
      · refine ⟨by show t1 < G.nt; exact hr1, fun b' q p hb' => ?_⟩
        have hbb : b' = b := m1.tok.2.2 b' b _ _ _ _ _ hb' hown
        subst hbb
        rw [hown] at hb'
        injection hb' with e1 e2 e3
        subst e2; subst e3
        exact ⟨Nat.le_refl _, fun _ => ⟨rfl, by simp only [List.length_append, ecs, hnl, Nat.add_mul], hsz, _, _, hheap1, by rw [hsize, hc0]⟩⟩
    · have hfo : (Builtin.firstCells i.size n (.slice (some ⟨b, 0, none⟩) n bc)).run P w.drew = .ok olds.toArray w.drew := by
        refine run_firstCells_some w.drew i.size n ⟨b, 0, none⟩ n bc olds (by omega) (fun j v hv => ?_)
        obtain ⟨x', e1, e2⟩ := hco j v hv
        cases e1
        simpa using e2
      have hrun := run_append_grow_src w t u o.type e i z ht hi hz (some ⟨b, 0, none⟩) n bc olds hfo (.slice ad m cap) m news hsrc (by omega) h63 (growslice_fits (by omega) hle)
      generalize hcap' : grownCap w (n + m) bc e = cap' at hrun
      have hge : n + m ≤ cap' := by rw [← hcap']; exact grownCap_ge w _ _ _
      have k : Keep w (w.drew.alloc (.cells ((olds ++ news).toArray ++ Builtin.zeroCells z.cells (cap' - (n + m))) e)) := (Keep.drew w).trans (Keep.alloc _ _)
      have hheap := heap_alloc_new w.drew (.cells ((olds ++ news).toArray ++ Builtin.zeroCells z.cells (cap' - (n + m))) e)
      have hdsz : w.drew.heap.size = w.heap.size := rfl
      rw [hdsz] at hheap
      have hcsz : ((olds ++ news).toArray ++ Builtin.zeroCells z.cells (cap' - (n + m))).size = cap' * i.size := by
        rw [Array.size_append, size_zeroCells, hzs]
        simp only [List.size_toArray, List.length_append, hol, ecs, hnl', ← Nat.add_mul]
        congr 1
        omega
      have hlt : w.heap.size < (w.drew.alloc (.cells ((olds ++ news).toArray ++ Builtin.zeroCells z.cells (cap' - (n + m))) e)).heap.size := by simp
      obtain ⟨x1, m1⟩ := h.movT k (n' := n + m) (nb := w.heap.size) hb (by omega) (Nat.le_refl _) hlt hheap (by rw [hcsz]; exact Nat.mul_le_mul_right _ hge) hset
      have hown : (G.movT b w.heap.size t1 (n + m) i.size).own w.heap.size = .tok t1 (n + m) i.size := by simp [Gh.movT, upd_eq]
      refine eff_of he (by rw [ex, ey]; exact hrun) ⟨_, x1, m1, .own _ _ _ _ _ ?_ ?_⟩
      · refine PR.head hheap ((hro.append hrn).pext x1) (by simp [em, hne]) hge (fun j hj => ?_) (fun j hj => tok_S hown (by simp only [List.length_append, hol, ecs, hnl', ← Nat.add_mul] at hj; exact hj))
        rw [Array.getElem?_append_left (by simpa using hj)]; simp
      · refine ⟨by show t1 < G.nt; exact hr1, fun b' q p hb' => ?_⟩
        have hbb : b' = w.heap.size := m1.tok.2.2 b' w.heap.size _ _ _ _ _ hb' hown
        subst hbb
        rw [hown] at hb'
        injection hb' with e1 e2 e3
        subst e2; subst e3
        exact ⟨Nat.le_refl _, fun _ => ⟨rfl, by simp only [List.length_append, ecs, hnl, Nat.add_mul], hsz, _, _, hheap, hcsz⟩⟩

theorem ok_mksl (h : MR P E U pd l s G w) (t : TypeId) (x : Operand) (hop : o.op = .makeSlice t (.const (.int .i64 0)) x) {e : TypeId} (ht : P.underlying t = some (.slice e)) {i : TypeInfo} (hi : P.info? e = some i) (hsz : 0 < i.size) (hby : 0 < i.bytes) (hzc : (zeroCells P e).isSome = true)
    {g : Arg} (hg : cArg x = some g) (hr : ReadsOK G w f a g.tmps) {m : Nat} (hm : natOf (g.ev f) = some m) (hle : m * i.bytes ≤ 140737488355328) :
    NextP P (EffP P E U pd G w l { s with ntok := s.ntok + 1, toks := (s.ntok, 0, i.size) :: s.toks } (.sl 0 [] (.own s.ntok))) ((execOp a.eval o).run P w) := by
  obtain ⟨k, ek⟩ := natOf_ok hm (arg_ok hg hr)
  obtain ⟨z, hz, hzs⟩ := zero_size hi hzc
  have hmb : m ≤ m * i.bytes := Nat.le_mul_of_pos_right _ hby
  have hrun := run_make (P := P) w t e i z ht hi hz .i64 k 0 (m : Int) (Int.le_refl _) (by omega) (by
    have : ((m * i.bytes : Nat) : Int) ≤ 140737488355328 := by omega
    rw [Int.natCast_mul, Int.mul_comm] at this
    omega) (by omega)
  have hheap := heap_alloc_new w (.cells (madeCells z.cells ((m : Int).toNat * i.size)) e)
  obtain ⟨x1, m1⟩ := h.addT (Keep.alloc w (.cells (madeCells z.cells ((m : Int).toNat * i.size)) e)) (n := 0) (sz := i.size) (Nat.le_refl _) (alloc_lt w _) hsz hheap (by simp)
  have hown : (G.addT w.heap.size s.ntok 0 i.size).own w.heap.size = .tok s.ntok 0 i.size := by simp [Gh.addT, upd_eq]
  refine eff_of (exec_makeSlice t _ x hop) (by rw [ek]; exact hrun) ⟨_, x1, m1, .own _ _ _ _ _ (PR.nil_row _ _) ?_⟩
  refine ⟨by show s.ntok < G.nt + 1; rw [h.nt]; exact Nat.lt_succ_self _, fun b q p hb => ?_⟩
  have hb' : b = w.heap.size := m1.tok.2.2 b w.heap.size _ _ _ _ _ hb hown
  subst hb'
  rw [hown] at hb
  injection hb with e1 e2 e3
  subst e2; subst e3
  exact ⟨Nat.le_refl _, fun _ => ⟨rfl, by simp, hsz, _, _, hheap, by rw [size_madeCells]⟩⟩
end Go.AI

/- Operations with effects: maps. -/
namespace Go.AI
variable {P : Program} {E : Heap} {U pd : Nat → Option (List AVal)} {l : Tr (Nat × List AVal)} {s : ASt} {G : Gh} {w w' : World} {f : Tr AVal} {a : Act} {o : Oper} {v : AVal}

def keyD : Nat → TypeDesc → Prop
  | 0, .bool => True
  | 1, .int _ => True
  | 2, .string => True
  | _, _ => False
theorem keyD_of {kt : TypeId} {kd : Nat} (h : kindT P kt = some kd) (h3 : kd < 3) : ∃ d, P.underlying kt = some d ∧ keyD kd d := by
  obtain ⟨h0, h1, h2, _⟩ := kindT_ok h
  rcases (by omega : kd = 0 ∨ kd = 1 ∨ kd = 2) with rfl | rfl | rfl
  · exact ⟨_, h0 rfl, trivial⟩
  · obtain ⟨i, hi⟩ := h1 rfl
    exact ⟨_, hi, trivial⟩
  · exact ⟨_, h2 rfl, trivial⟩
theorem run_checkKey' {kt : TypeId} {d : TypeDesc} {kd : Nat} (hd : P.underlying kt = some d) (hk : keyD kd d) (e : Bool) (n : Nat) (k : Value) : (Instr.checkKey e (n + 1) kt k).run P w = .ok () w := by
  unfold Instr.checkKey
  simp only [Sem.run_bind, run_underlying hd, Result.andThen]
  match kd, d, hk with
  | 0, .bool, _ => rfl
  | 1, .int _, _ => rfl
  | 2, .string, _ => rfl
theorem isKey_bool {kd : Nat} {b : Bool} (h : isKey kd (.bool b) = true) : kd = 0 := by
  match kd, h with
  | 0, h => first | rfl | cases h
  | 1, h => first | rfl | cases h
  | 2, h => first | rfl | cases h
  | n + 3, h => cases h
theorem isKey_int {kd : Nat} {k : IntKind} {n : Int} (h : isKey kd (.int k n) = true) : kd = 1 := by
  match kd, h with
  | 0, h => first | rfl | cases h
  | 1, h => first | rfl | cases h
  | 2, h => first | rfl | cases h
  | n + 3, h => cases h
theorem isKey_str {kd : Nat} {b : ByteArray} (h : isKey kd (.str b) = true) : kd = 2 := by
  match kd, h with
  | 0, h => first | rfl | cases h
  | 1, h => first | rfl | cases h
  | 2, h => first | rfl | cases h
  | n + 3, h => cases h
theorem isKey_lt {kd : Nat} {k : PVal} (h : isKey kd k = true) : kd < 3 := by
  unfold isKey at h
  split at h <;> first | omega | cases h

def KV (S : Nat → Nat → Prop) (w : World) (x : PVal × PVal) (e : MapEntry) : Prop := PR S w x.1 e.key ∧ PR S w x.2 e.val
theorem same_ok {S : Nat → Nat → Prop} {d : TypeDesc} {kd : Nat} {x k : PVal} {xv kv : Value} {b : Bool} (hd : keyD kd d) (hx : isKey kd x = true) (h : peq1 x k = some b) (h1 : PR S w x xv) (h2 : PR S w k kv) :
    Instr.sameNow d xv kv = some b ∧ (b = true → kv = xv) := by
  unfold peq1 at h
  split at h
  · rename_i j m j' n
    have hk : kd = 1 := isKey_int hx
    subst hk
    cases d <;> try (exact hd.elim; done)
    cases h1; cases h2
    rw [keq_iff] at h
    by_cases e : j = j'
    · subst e
      simp only [decide_true, cond_true, Option.some.injEq] at h
      subst h
      rw [ieq_iff]
      refine ⟨?_, fun e => ?_⟩
      · simp only [Instr.sameNow, if_true]
        congr 1
      · rw [of_decide_eq_true e]
    · simp only [e, decide_false, cond_false] at h
      cases h
  · rename_i m n
    have hk : kd = 2 := isKey_str hx
    subst hk
    cases d <;> try (exact hd.elim; done)
    cases h1; cases h2
    simp only [Option.some.injEq] at h
    subst h
    rw [strEq_iff]
    refine ⟨?_, fun e => by rw [of_decide_eq_true e]⟩
    simp only [Instr.sameNow]
    congr 1
    rw [Bool.eq_iff_iff, decide_eq_true_iff]
    exact MapKept.bytes_beq m n
  · rename_i m n
    have hk : kd = 0 := isKey_bool hx
    subst hk
    cases d <;> try (exact hd.elim; done)
    cases h1; cases h2
    simp only [Option.some.injEq] at h
    subst h
    cases m <;> cases n <;> simp [Instr.sameNow]
  · cases h
theorem find_ok {S : Nat → Nat → Prop} {d : TypeDesc} {kd : Nat} {x : PVal} {xv : Value} (hd : keyD kd d) (hx : isKey kd x = true) (h1 : PR S w x xv) :
    ∀ {es : List (PVal × PVal)} {ents : List MapEntry} {r : Option PVal} (i : Nat), es.length = ents.length → (∀ (j : Nat) p e, es[j]? = some p → ents[j]? = some e → KV S w p e) → findKey es x = some r →
      (r = none ∧ Instr.findNow d xv ents i = some none) ∨ ∃ j y e, r = some y ∧ Instr.findNow d xv ents i = some (some (i + j, e.val)) ∧ ents[j]? = some e ∧ PR S w y e.val
  | [], [], r, i, _, _, h => by
    simp only [findKey, Option.some.injEq] at h
    exact .inl ⟨h.symm, rfl⟩
  | (k, y) :: es, e :: ents, r, i, hl, hp, h => by
    simp only [findKey, Option.bind_eq_some_iff] at h
    obtain ⟨b, hb, h⟩ := h
    obtain ⟨hk, hv⟩ := hp 0 _ _ rfl rfl
    obtain ⟨h2, _⟩ := same_ok hd hx hb h1 hk
    cases b with
    | true =>
      simp only [cond_true, Option.some.injEq] at h
      subst h
      exact .inr ⟨0, y, e, rfl, by simp [Instr.findNow, h2], rfl, hv⟩
    | false =>
      simp only [cond_false] at h
      rcases find_ok hd hx h1 (i + 1) (by simpa using hl) (fun j p e h3 h4 => hp (j + 1) p e (by simpa using h3) (by simpa using h4)) h with ⟨h3, h4⟩ | ⟨j, z, e', h3, h4, h5, h6⟩
      · exact .inl ⟨h3, by simp [Instr.findNow, h2, h4]⟩
      · exact .inr ⟨j + 1, z, e', h3, by simp [Instr.findNow, h2, h4]; omega, by simpa using h5, h6⟩
theorem put_ok {S : Nat → Nat → Prop} {d : TypeDesc} {kd : Nat} {x y : PVal} {xv : Value} (hd : keyD kd d) (hx : isKey kd x = true) (h1 : PR S w x xv) :
    ∀ {es es' : List (PVal × PVal)} {ents : List MapEntry} (i : Nat), es.length = ents.length → (∀ (j : Nat) p e, es[j]? = some p → ents[j]? = some e → KV S w p e) → putKey es x y = some es' →
      (Instr.findNow d xv ents i = some none ∧ es' = es ++ [(x, y)]) ∨ ∃ j e, Instr.findNow d xv ents i = some (some (i + j, e.val)) ∧ ents[j]? = some e ∧ e.key = xv ∧ es' = es.set j (x, y)
  | [], es', [], i, _, _, h => by
    simp only [putKey, Option.some.injEq] at h
    exact .inl ⟨rfl, h.symm⟩
  | (k, z) :: es, es', e :: ents, i, hl, hp, h => by
    simp only [putKey, Option.bind_eq_some_iff] at h
    obtain ⟨b, hb, h⟩ := h
    obtain ⟨hk, hv⟩ := hp 0 _ _ rfl rfl
    obtain ⟨h2, h3⟩ := same_ok hd hx hb h1 hk
    cases b with
    | true =>
      simp only [cond_true, Option.some.injEq] at h
      subst h
      exact .inr ⟨0, e, by simp [Instr.findNow, h2], rfl, h3 rfl, rfl⟩
    | false =>
      simp only [cond_false, Option.map_eq_some_iff] at h
      obtain ⟨es1, hes, rfl⟩ := h
      rcases put_ok hd hx h1 (i + 1) (by simpa using hl) (fun j p e h3 h4 => hp (j + 1) p e (by simpa using h3) (by simpa using h4)) hes with ⟨h4, h5⟩ | ⟨j, e', h4, h5, h6, h7⟩
      · exact .inl ⟨by simp [Instr.findNow, h2, h4], by rw [h5]; rfl⟩
      · exact .inr ⟨j + 1, e', by simp [Instr.findNow, h2, h4]; omega, by simpa using h5, h6, by rw [h7]; rfl⟩

theorem key_same {d : TypeDesc} {kd : Nat} {S : Nat → Nat → Prop} {x : PVal} {xv : Value} (hd : keyD kd d) (hx : isKey kd x = true) (h1 : PR S w x xv) (n : Nat) : Instr.sameBits n xv xv = true := by
  unfold isKey at hx
  split at hx <;> try (cases hx; done)
  all_goals
    cases h1
    cases n <;> simp [Instr.sameBits]
  all_goals
    have := (MapKept.bytes_beq ‹ByteArray› _).2 rfl
    exact this

theorem whole_ok {c : PVal} {v : Value} (h : PR G.S w c v) : VR G w c.whole v := by
  cases h with
  | agg cs vs hl h1 h =>
    refine .agg _ vs (by simpa using hl) h1 fun i c v hc hv => ?_
    simp only [List.getElem?_map, Option.map_eq_some_iff] at hc
    obtain ⟨d, hd, rfl⟩ := hc
    exact .p _ _ (h i d v hd hv)
  | bool b => exact .p _ _ (.bool b)
  | int k n => exact .p _ _ (.int k n)
  | str s => exact .p _ _ (.str s)
  | nilFunc => exact .p _ _ .nilFunc
  | nilp => exact .p _ _ .nilp
  | nilMap => exact .p _ _ .nilMap
  | nilSl cap => exact .p _ _ (.nilSl cap)
  | emSl a cap => exact .p _ _ (.emSl a cap)
  | sl n cs a cap vs hn hl hz h1 hc h => exact .p _ _ (.sl n cs a cap vs hn hl hz h1 hc h)
  | func f fs cps vs us hl hm h k => exact .p _ _ (.func f fs cps vs us hl hm h k)
theorem ok_mkmap (h : MR P E U pd l s G w) (t : TypeId) (hop : o.op = .makeMap t none) : NextP P (EffP P E U pd G w l (newObj s (.map [])) (.map s.next)) ((execOp a.eval o).run P w) := by
  have x := h.ext_addH (Keep.alloc w (.map #[] 0)) (b := w.heap.size) (q := s.next) (Nat.le_refl _) h.bOf_next h.lo_
  refine eff_of (u := .map (some w.heap.size)) (w' := w.alloc (.map #[] 0)) (exec_makeMap t none hop) (by simp [Instr.makeMap]) ⟨_, x, h.addH (Keep.alloc w (.map #[] 0)) (Nat.le_refl _) (alloc_lt w _) (o := .map []) ?_, .map _ _ (by simp [Gh.addH, upd_eq])⟩
  exact ⟨#[], 0, heap_alloc_new w _, rfl, fun j k x e h1 => by simp at h1⟩
theorem Swap.setObj {w : World} {b : Nat} {o0 : Obj} (hb : w.heap[b]? = some o0) (ob : Obj) (h0 : NoCells o0 := by exact trivial) (h1 : NoCells ob := by exact trivial) : Swap b w { w with heap := w.heap.setIfInBounds b ob } := ⟨by simp, rfl, rfl, rfl, fun y hy => by simp [Ne.symm hy], fun a => by
  by_cases e : a.block = b
  · unfold World.frozen?
    rw [e, hb]
    simp only [(MapKept.heap_set hb).1]
    cases o0 <;> cases ob <;> first | rfl | exact h0.elim | exact h1.elim
  · unfold World.frozen?
    simp [Ne.symm e]⟩
theorem map_at (h : MR P E U pd l s G w) {q b : Nat} (hb : G.bOf q = some b) {es : List (PVal × PVal)} (hm : mapAt E s q = some es) :
    ∃ ents clock, w.heap[b]? = some (.map ents clock) ∧ es.length = ents.size ∧ ∀ (j : Nat) k x e, es[j]? = some (k, x) → ents[j]? = some e → PR G.S w k e.key ∧ PR G.S w x e.val := by
  unfold mapAt at hm
  split at hm
  · rename_i ds he
    simp only [Option.some.injEq] at hm
    subst hm
    rcases (h.heap q _ he).2 with e | ⟨b', h1, h2, h3⟩
    · rw [hb] at e; cases e
    · rw [hb] at h1; cases h1; exact h3
  · cases hm
  · split at hm <;> try (cases hm; done)
    rename_i ds he
    simp only [Option.some.injEq] at hm
    subst hm
    rcases (h.ro q _ he).2 with e | ⟨b', j, h1, h2, h3⟩
    · rw [hb] at e; cases e
    · rw [hb] at h1; cases h1; exact h3
theorem ok_look (h : MR P E U pd l s G w) (t : TypeId) (x y : Operand) (ok : Bool) (hop : o.op = .lookup t x y ok) {kt et : TypeId} (ht : P.underlying t = some (.map kt et)) {kd : Nat} (hkd : kindT P kt = some kd) {i : TypeInfo} (hi : P.info? et = some i) {z : Value} (hz : i.zero = some z) {zv : AVal} (hzv : valA z = some zv)
    {gx gy : Arg} (hx : cArg x = some gx) (hy : cArg y = some gy) (hr : ReadsOK G w f a (gx.tmps ++ gy.tmps)) {q : Nat} {k : PVal} (hq : gx.ev f = .map q) (hk : gy.ev f = .p k) {es : List (PVal × PVal)} (hm : mapAt E s q = some es) (hik : isKey kd k = true) {r : Option PVal} (hf : findKey es k = some r) :
    PureOK P G w o a (match r with
      | some x => cond ok (.tuple [x.whole, .p (.bool true)]) x.whole
      | none => cond ok (.tuple [zv, .p (.bool false)]) zv) := by
  have h1 := arg_ok hx fun t ht => hr t (by simp [ht])
  have h2 := arg_ok hy fun t ht => hr t (by simp [ht])
  rw [hq] at h1
  rw [hk] at h2
  generalize hxv : a.eval x = xv at h1
  generalize hyv : a.eval y = yv at h2
  cases h1 with | map _ b hb =>
  have hp : PR G.S w k yv := by cases h2; assumption
  obtain ⟨ents, clock, hheap, hl, hrel⟩ := map_at h hb hm
  obtain ⟨d, hd, hkD⟩ := keyD_of hkd (isKey_lt hik)
  have hg := MapKept.run_getObj_map (P := P) hheap
  have pair : ∀ {x : AVal} {u : Value} {b : Bool}, VR G w x u → VR G w (cond ok (.tuple [x, .p (.bool b)]) x) (if ok then .tuple #[u, .bool b] else u) := by
    intro x u b hu
    cases ok with
    | false => exact hu
    | true =>
      refine .tuple _ _ rfl fun i c v hc hv => ?_
      match i, hc, hv with
      | 0, hc, hv => simp at hc hv; subst hc; subst hv; exact hu
      | 1, hc, hv => simp at hc hv; subst hc; subst hv; exact .bool b
  rcases find_ok hkD hik hp (ents := ents.toList) 0 (by simpa using hl) (fun j p e h3 h4 => hrel j p.1 p.2 e h3 (by simpa using h4)) hf with ⟨rfl, h4⟩ | ⟨j, y', e, rfl, h4, h5, h6⟩
  · refine pure_of (exec_lookup t x y ok hop) (u := if ok then .tuple #[z, .bool false] else z) ?_ (Keep.refl w) (pair (valA_ok hzv))
    rw [hxv, hyv]
    simp [Instr.lookup, run_underlying ht, hg, run_checkKey' hd hkD, MapKept.run_findKey hd h4, zeroValue, typeInfo, hi, hz]
  · refine pure_of (exec_lookup t x y ok hop) (u := if ok then .tuple #[e.val, .bool true] else e.val) ?_ (Keep.refl w) (pair (whole_ok h6))
    rw [hxv, hyv]
    simp [Instr.lookup, run_underlying ht, hg, run_checkKey' hd hkD, MapKept.run_findKey hd h4]
theorem run_keep {xv : Value} (h : Instr.sameBits 10000 xv xv = true) : (Instr.keyThatStays xv xv).run P w = .ok xv w := by simp [Instr.keyThatStays, h]
theorem ok_insert (h : MR P E U pd l s G w) (t : TypeId) (x y z : Operand) (hop : o.op = .insert t x y z ∨ o.op = .mapUpdate t x y z) {kt et : TypeId} (ht : P.underlying t = some (.map kt et)) {kd : Nat} (hkd : kindT P kt = some kd)
    {gx gy gz : Arg} (hx : cArg x = some gx) (hy : cArg y = some gy) (hz : cArg z = some gz) (hr : ReadsOK G w f a (gx.tmps ++ (gy.tmps ++ gz.tmps))) {q : Nat} {k yz : PVal} (hq : gx.ev f = .map q) (hk : gy.ev f = .p k) {es es' : List (PVal × PVal)} (hm : assoc s.heap q = some (.map es))
    (hik : isKey kd k = true) (hv : AVal.pureW (gz.ev f) = some yz) (hf : putKey es k yz = some es') {hp : Heap} (hset : assocSet s.heap q (.map es') = some hp) :
    NextP P (EffP P E U pd G w l { s with heap := hp } undefA) ((execOp a.eval o).run P w) := by
  have h1 := arg_ok hx fun t ht => hr t (by simp [ht])
  have h2 := arg_ok hy fun t ht => hr t (by simp [ht])
  have h3 := pureW_ok hv (arg_ok hz fun t ht => hr t (by simp [ht]))
  rw [hq] at h1
  rw [hk] at h2
  generalize hxv : a.eval x = xv at h1
  generalize hyv : a.eval y = yv at h2
  generalize hzv : a.eval z = zv at h3
  cases h1 with | map _ b hb =>
  have hpk : PR G.S w k yv := by cases h2; assumption
  obtain ⟨ents, clock, hheap, hl, hrel⟩ := map_at (E := E) h hb (es := es) (by unfold mapAt; rw [hm])
  obtain ⟨d, hd, hkD⟩ := keyD_of hkd (isKey_lt hik)
  have hg := MapKept.run_getObj_map (P := P) hheap
  have hso := fun ob => MapKept.run_setObj_map (P := P) ob hheap
  have hsb := key_same hkD hik hpk 10000
  have hown : G.own b = .loc q := by
    rcases (h.heap q _ hm).2 with e | ⟨b', k1, k2, k3⟩
    · rw [hb] at e; cases e
    · rw [hb] at k1; cases k1; exact k2
  have he : execOp a.eval o = (do Instr.mapUpdate t (a.eval x) (a.eval y) (a.eval z); pure .skip) := by
    rcases hop with hop | hop
    · exact exec_insert t x y z hop
    · exact exec_mapUpdate t x y z hop
  have fin : ∀ ents' clock', (Instr.mapUpdate t (a.eval x) (a.eval y) (a.eval z)).run P w = .ok () { w with heap := w.heap.setIfInBounds b (.map ents' clock') } → es'.length = ents'.size →
      (∀ (j : Nat) k x e, es'[j]? = some (k, x) → ents'[j]? = some e → PR G.S w k e.key ∧ PR G.S w x e.val) → NextP P (EffP P E U pd G w l { s with heap := hp } undefA) ((execOp a.eval o).run P w) := by
    intro ents' clock' hrun hl' hrel'
    have x := Ext.chg (G := G) (Swap.setObj hheap (.map ents' clock')) (by rw [hown]; exact fun e => e) (by rw [hown]; intros; simp)
    obtain ⟨_, hmr⟩ := h.chgH (Swap.setObj hheap (.map ents' clock')) hb hown hset ⟨ents', clock', (MapKept.heap_set hheap).1, hl', fun j k y e h4 h5 => ⟨(hrel' j k y e h4 h5).1.ext x, (hrel' j k y e h4 h5).2.ext x⟩⟩
    exact eff_skip he hrun ⟨G, x, hmr, .undef⟩
  rcases put_ok hkD hik hpk (ents := ents.toList) 0 (by simpa using hl) (fun j p e h3 h4 => hrel j p.1 p.2 e h3 (by simpa using h4)) hf with ⟨h4, h5⟩ | ⟨j, e, h4, h5, h6, h7⟩
  · refine fin (ents.push { key := yv, val := zv, born := clock }) (clock + 1) ?_ (by rw [h5]; simp [hl]) (fun j k y e hj he => ?_)
    · rw [hxv, hyv, hzv]
      simp [Instr.mapUpdate, run_underlying ht, hg, run_checkKey' hd hkD, MapKept.run_findKey hd h4, hso]
    · rw [h5] at hj
      rw [Array.getElem?_push] at he
      by_cases c : j < es.length
      · rw [List.getElem?_append_left c] at hj
        rw [if_neg (by omega)] at he
        exact hrel j k y e hj he
      · by_cases c' : j = ents.size
        · rw [if_pos c'] at he
          simp only [Option.some.injEq] at he
          subst he
          rw [List.getElem?_append_right (by omega), show j - es.length = 0 by omega] at hj
          simp only [List.getElem?_cons_zero, Option.some.injEq, Prod.mk.injEq] at hj
          obtain ⟨rfl, rfl⟩ := hj
          exact ⟨hpk, h3⟩
        · rw [if_neg c', Array.getElem?_eq_none (by omega)] at he
          cases he
  · rw [Nat.zero_add] at h4
    have h5' : ents[j]? = some e := by simpa using h5
    have hjl : j < ents.size := (Array.getElem?_eq_some_iff.1 h5').1
    refine fin (ents.modify j fun e => { e with key := yv, val := zv }) clock ?_ (by rw [h7]; simp [hl]) (fun j' k' y e' hj he => ?_)
    · rw [hxv, hyv, hzv]
      have hkk : ((ents[j]?).map (·.key)).getD yv = yv := by rw [h5']; simp [h6]
      have hkeep : (Instr.keyThatStays (((ents[j]?).map (·.key)).getD yv) yv).run P w = .ok yv w := by rw [hkk]; exact run_keep hsb
      simp only [Instr.mapUpdate, Sem.run_bind, run_underlying ht, Result.andThen_ok, hg, run_checkKey' hd hkD, MapKept.run_findKey hd h4, hkeep, hso]
    · rw [h7] at hj
      rw [Array.getElem?_modify] at he
      by_cases c : j = j'
      · subst c
        rw [List.getElem?_set_self (by omega)] at hj
        rw [if_pos rfl, h5'] at he
        simp only [Option.some.injEq, Prod.mk.injEq, Option.map_some] at hj he
        obtain ⟨rfl, rfl⟩ := hj
        subst he
        exact ⟨hpk, h3⟩
      · rw [List.getElem?_set_ne c] at hj
        rw [if_neg c] at he
        exact hrel j' k' y e' hj he
end Go.AI
