/- Part 5: what the functions of the program compute, function by function. No condition. -/
import Derived.Test.YtgecccghlgpmjaaGreatPd
set_option linter.unusedVariables false
set_option linter.unusedSimpArgs false
namespace Go.AI
def qaU {α : Type} (c : α → List PVal) : List α → List PVal
 | [] => []
 | a :: r => c a ++ qaU c r
section
variable {α : Type} {c : α → List PVal} {sz : Nat} (hc : ∀ a, (c a).length = sz)
include hc
theorem qcH (l : List α) : (qaU c l).length = l.length * sz := by
 induction l with
 | nil => simp [qaU]
 | cons a r ih => simp only [qaU, List.length_append, hc, ih, List.length_cons, Nat.add_mul, Nat.one_mul]; omega
omit hc in
theorem qeq (a b : List α) : qaU c (a ++ b) = qaU c a ++ qaU c b := by
 induction a with
 | nil => rfl
 | cons x r ih => simp only [List.cons_append, qaU, ih, List.append_assoc]
theorem qjN {l : List α} {j : Nat} {a : α} (h : l[j]? = some a) : (qaU c l).drop (j * sz) = c a ++ qaU c (l.drop (j + 1)) := by
 obtain ⟨hj, e⟩ := List.getElem?_eq_some_iff.1 h
 have h1 : l = l.take j ++ a :: l.drop (j + 1) := by
  rw [← e, ← List.drop_eq_getElem_cons hj, List.take_append_drop]
 have h2 : qaU c l = qaU c (l.take j) ++ (c a ++ qaU c (l.drop (j + 1))) := by
  conv => lhs; rw [h1]
  rw [qeq]; rfl
 have h3 : (qaU c (l.take j)).length = j * sz := by rw [qcH hc, List.length_take, Nat.min_eq_left (by omega)]
 rw [h2, List.drop_append_of_le_length (by omega), ← h3, List.drop_length, List.nil_append]
theorem qqJ {l : List α} {j : Nat} (h : j < l.length) : j * sz + sz ≤ (qaU c l).length := by
 rw [qcH hc]
 have := Nat.mul_le_mul_right sz (show j + 1 ≤ l.length by omega)
 rw [Nat.add_mul, Nat.one_mul] at this
 exact this
theorem qrA {l : List α} {j : Nat} {a : α} (h : l[j]? = some a) : cut (qaU c l) (j * sz) sz = some (c a) := by
 unfold cut
 obtain ⟨hj, _⟩ := List.getElem?_eq_some_iff.1 h
 have := qqJ hc hj
 rw [qb0, qb1, qjN hc h, ble_iff.2 this, cond_true, List.take_append_of_le_length (by rw [hc]; exact Nat.le_refl _), List.take_of_length_le (by rw [hc]; exact Nat.le_refl _)]
theorem qpW {l : List α} {j : Nat} {a : α} (h : l[j]? = some a) (f : Nat) (hf : f < sz) : cut (qaU c l) (j * sz + f) 1 = (c a)[f]?.map fun x => [x] := by
 unfold cut
 obtain ⟨hj, _⟩ := List.getElem?_eq_some_iff.1 h
 have := qqJ hc hj
 have hf' : f < (c a).length := by rw [hc]; exact hf
 rw [qb0, qb1, ← List.drop_drop, qjN hc h, ble_iff.2 (by omega), cond_true, List.drop_append_of_le_length (by omega), List.drop_eq_getElem_cons hf', List.getElem?_eq_getElem hf']
 rfl
theorem qd4 (e : Env) (s : ASt) {l : List α} {j : Nat} {a : α} (h : l[j]? = some a) : ldH e s (.elem (qaU c l) (j * sz)) (some sz) = some (.agg ((c a).map .p)) := by
 rw [qfO]
 simp only [cnt, qrA hc h, Option.map_some, Option.bind_some, AVal.ofCells]
theorem qrB (e : Env) (s : ASt) {l : List α} {j : Nat} {a : α} (h : l[j]? = some a) (f : Nat) (hf : f < sz) : ldH e s (.elem (qaU c l) (j * sz + f)) none = (c a)[f]?.map .p := by
 rw [qfO]
 simp only [cnt, qpW hc h f hf]
 have hf' : f < (c a).length := by rw [hc]; exact hf
 rw [List.getElem?_eq_getElem hf']
 rfl
theorem qkK (e : Env) (s : ASt) {l : List α} {j : Nat} {a : α} (h : l[j]? = some a) (hz : 0 < sz) : ldH e s (.elem (qaU c l) (j * sz)) none = (c a)[0]?.map .p := qrB hc e s h 0 hz
end
theorem qcY {α : Type} {c : α → List PVal} {sz : Nat} {l : List α} {j : Nat} {k : IntKind} (h : j < l.length) : iaV sz (.p (.sl l.length (qaU c l))) (.p (.int k (.ofNat j))) = some (qaU c l, j * sz) := qta h
theorem qc6 {α : Type} {c : α → List PVal} {l : List α} {j : Nat} (hj : j < l.length) : qaU c (l.take (j + 1)) = (if j = 0 then [] else qaU c (l.take j)) ++ c l[j] := by
 rw [List.take_succ_eq_append_getElem hj, qeq]
 simp only [qaU, List.append_nil]
 cases j with
 | zero => rfl
 | succ j => rfl
structure Bs where
 cell : Bool
 n : Int
structure Ty where
 ps : List Bs
 res : Bs
structure Ar where
 ids : List Ty
 root : Bs
 jumps : Bool
namespace Bs
def cells (b : Bs) : List PVal := [.bool b.cell, .int .i64 b.n]
def v (b : Bs) : AVal := .agg [bl b.cell, i64 b.n]
def Ok (b : Bs) : Prop := -9223372036854775808 ≤ b.n ∧ b.n ≤ 9223372036854775807
theorem len (b : Bs) : b.cells.length = 2 := rfl
end Bs
namespace Ty
def cells (t : Ty) : List PVal := [.sl t.ps.length (qaU Bs.cells t.ps), .bool t.res.cell, .int .i64 t.res.n]
def v (t : Ty) : AVal := .agg [.p (.sl t.ps.length (qaU Bs.cells t.ps)), bl t.res.cell, i64 t.res.n]
def Ok (t : Ty) : Prop := t.ps.length ≤ maxLen ∧ (∀ b ∈ t.ps, b.Ok) ∧ t.res.Ok
theorem len (t : Ty) : t.cells.length = 3 := rfl
end Ty
namespace Ar
def cells (a : Ar) : List PVal := [.sl a.ids.length (qaU Ty.cells a.ids), .bool a.root.cell, .int .i64 a.root.n, .bool a.jumps]
def v (a : Ar) : AVal := .agg [.p (.sl a.ids.length (qaU Ty.cells a.ids)), bl a.root.cell, i64 a.root.n, bl a.jumps]
def Ok (a : Ar) : Prop := a.ids.length ≤ maxLen ∧ (∀ t ∈ a.ids, t.Ok) ∧ a.root.Ok
end Ar
@[simp] theorem qn9 (a b c : AVal) : ldL [a, b, c] 1 (some 2) = some (.agg [b, c]) := rfl
@[simp] theorem qoa (a b c d : AVal) : ldL [a, b, c, d] 1 (some 2) = some (.agg [b, c]) := rfl
theorem ge1 (a b : Int) : qbM .geq .i64 a b = some (.bool (decide (b ≤ a))) := by
 rw [qkJ]
 congr 2
 by_cases h : a < b
 ·rw [decide_eq_true h, decide_eq_false (by omega)]; rfl
 ·rw [decide_eq_false h, decide_eq_true (by omega)]; rfl
theorem le1 (a b : Int) : qbM .leq .i64 a b = some (.bool (decide (a ≤ b))) := by
 rw [qep]
 congr 2
 by_cases h : b < a
 ·rw [decide_eq_true h, decide_eq_false (by omega)]; rfl
 ·rw [decide_eq_false h, decide_eq_true (by omega)]; rfl
def qb6 (b : Bs) : Bool := decide (1 ≤ b.n) && decide (b.n ≤ 64)
def qd5 (t : Ty) : Bool := qb6 t.res && (t.ps.all qb6 && (t.ps.isEmpty || !t.res.cell))
end Go.AI
namespace Go.AI.Tryz
theorem qip (b : Bs) : PC CP 103 [b.v] (bl (qb6 b)) := by
 refine PC.of (cf := cf103) (np := 1) (args' := [b.v]) (r := bl (qb6 b)) (by kernel_rfl) (by kernel_rfl) rfl rfl rfl rfl (fun _ => rfl) (Ev.of fun n E s _ _ => ⟨s, (s103_eq _ _ _ _).trans ?_⟩)
 unfold s103 s103_0
 simp only [Bs.v, qgt, qkF, Option.bind_some, qag, ge1, le1, Option.map_some, qav, qaa, qb6]
 cases decide (1 ≤ b.n) <;> rfl
def qbv {α : Type} (p : α → Bool) (l : List α) (j : Nat) : Int := match (l.drop j).findIdx? p with | some i => .ofNat (j + i) | none => -1
theorem qkL {α : Type} (p : α → Bool) (l : List α) : (0 ≤ qbv p l 0) ↔ l.any p = true := by
 simp only [qbv, List.drop_zero]
 cases h : l.findIdx? p with
 | none =>
  rw [List.findIdx?_eq_none_iff] at h
  simp only [Int.reduceNeg, Int.neg_nonneg, List.any_eq_true]
  constructor
  ·intro h2; omega
  ·rintro ⟨x, hx, hpx⟩
   have := h x hx
   rw [this] at hpx; cases hpx
 | some i =>
  have := List.findIdx?_eq_some_iff_getElem.1 h
  obtain ⟨hi, hpi, _⟩ := this
  simp only [List.any_eq_true]
  exact ⟨fun _ => ⟨_, List.getElem_mem hi, hpi⟩, fun _ => by simp only [Int.ofNat_eq_natCast]; omega⟩
theorem qhA {α : Type} {c : α → List PVal} {sz : Nat} (hc : ∀ a, (c a).length = sz) (e : Env) (s : ASt) (f : AVal) (l : List α) (p : α → Bool) (hl : l.length ≤ 9223372036854775807) (hp : ∀ a ∈ l, clv e f [.agg ((c a).map .p)] s = some (bl (p a), s)) (n : Nat) (hn : l.length < n) :
  lp (fun _ _ => none) (fun h6 x4 s5 =>
 (bn .lss x4 (i64 (.ofNat l.length))).bind fun x7 =>
 qad x7 (qac (iaV sz (.p (.sl l.length (qaU c l))) x4) fun q8 o9 =>
 (ldH e s5 (.elem q8 o9) (some sz)).bind fun x10 =>
 qac (clv e f [x10] s5) fun x11 s12 =>
 qad x11 (some (x4, s12))
 ((bn .add x4 (i64 1)).bind fun x13 =>
 h6 x13 s12))
 (some ((i64 (-1)), s5))) n (i64 (.ofNat 0)) s = some (i64 (qbv p l 0), s) := by
 generalize hF : (fun (h6 : AVal → ASt → Res) (x4 : AVal) (s5 : ASt) => _) = F
 refine qfn _ F l.length (fun j L => L (i64 (.ofNat j)) s) (fun j => some (i64 (qbv p l j), s)) (fun j L hj ih => ?_) (fun L => ?_) n 0 (Nat.zero_le _) (by omega)
 ·subst hF
  have hk : l[j]? = some l[j] := List.getElem?_eq_getElem hj
  simp only [Option.bind_some, qag, qaE, qaH, Option.map_some, of_lt.2 hj, decide_true, qaa, cond_true, qcY hj, qab, qd4 hc _ _ hk, hp _ (List.getElem_mem hj), qa7 (show j < 9223372036854775807 by omega)]
  have hdr : l.drop j = l[j] :: l.drop (j + 1) := List.drop_eq_getElem_cons hj
  cases hb : p l[j] with
  | true =>
   simp only [cond_true, qbv, hdr, List.findIdx?_cons, hb, if_true, Nat.add_zero]
  | false =>
   simp only [cond_false]
   rw [ih]
   simp only [qbv, hdr, List.findIdx?_cons, hb, if_false, Bool.false_eq_true]
   cases (l.drop (j + 1)).findIdx? p with
   | none => rfl
   | some i =>
    simp only [Option.map_some]
    rw [show j + 1 + i = j + (i + 1) by omega]
 ·subst hF
  have h3 : ¬ (Int.ofNat l.length < Int.ofNat l.length) := fun h => Nat.lt_irrefl _ (of_lt.1 h)
  simp only [Option.bind_some, qag, qaE, Option.map_some, h3, decide_false, qaa, cond_false, qbv, List.drop_length, List.findIdx?_nil]
end Go.AI.Tryz
namespace Go.AI
theorem PC.ofI {CP : Nat → Option CF} {f np : Nat} {cf : CF} {args args' : List AVal} {r r' : AVal} (hcf : CP f = some cf) (hfl : flI cf np = true) (hl : args.length = np) (ha : args.all qbj = true) (hargs : args.map qaA = args')
  (hv : qaA r = r') (hpl : qlc r' = true) (hb : Ev fun n => ∀ E s, qat cf (qae CP n E) n args' s = some (r, s)) : PC CP f args r' := by
 refine Ev.succ (hb.mono fun n h E s => ?_)
 rw [qbL]
 exact qe4 hcf hfl hl ha hargs (h E s) hv hpl
theorem qth (CP : Nat → Option CF) {n : Nat} (hn : 1 ≤ n) (E : qaJ) (f : Nat) (x : AVal) (s : ASt) : clv (qae CP n E) (.p (.func f [] [])) [x] s = cl (qae CP n E) f [x] s := by
 obtain ⟨m, rfl⟩ : ∃ m, n = m + 1 := ⟨n - 1, by omega⟩
 rw [qgr, qeo, qbL]
 rfl
theorem qe6 {x : Int} {b : Bool} (h : 0 ≤ x ↔ b = true) : decide (0 ≤ x) = b := by
 cases b with
 | true => exact decide_eq_true (h.2 rfl)
 | false => exact decide_eq_false fun k => by cases h.1 k
end Go.AI
namespace Go.AI.Tryz
theorem c160 (b : Bs) : PC CP 160 [b.v] (bl (!qb6 b)) := by
 refine PC.of (cf := cf160) (np := 1) (args' := [b.v]) (r := bl (!qb6 b)) (by kernel_rfl) (by kernel_rfl) rfl rfl rfl rfl (fun _ => rfl) ((qip b).mono fun n h E s _ _ => ⟨s, (s160_eq _ _ _ _).trans ?_⟩)
 unfold s160
 have h' := fun E s => h E s
 simp only [Bs.v] at h' ⊢
 simp only [qgt, qn2, Option.bind_some, h', qab, qau]
theorem c192 (l : List Bs) (hl : l.length ≤ maxLen) : PC CP 192 [.p (.sl l.length (qaU Bs.cells l)), .p (.func 160 [] [])] (i64 (qbv (fun b => !qb6 b) l 0)) := by
 have hev : Ev fun n => ∀ b ∈ l, ∀ E s, cl (qae CP n E) 160 [b.v] s = some (bl (!qb6 b), s) := Ev.all l fun b _ => c160 b
 rw [qbF] at hl
 refine PC.ofI (cf := cf192) (np := 2) (args' := [.p (.sl l.length (qaU Bs.cells l)), .p (.func 160 [] [])]) (r := i64 (qbv (fun b => !qb6 b) l 0)) (by kernel_rfl) (by kernel_rfl) rfl rfl rfl rfl rfl ((hev.and (Ev.ge (l.length + 1))).mono fun n ⟨hn, hm⟩ E s => (s192_eq _ _ _ _ _).trans ?_)
 unfold s192 s192_0
 rw [qcV, Option.bind_some]
 exact qhA (c := Bs.cells) (sz := 2) (fun _ => rfl) (qae CP n E) s (.p (.func 160 [] [])) l (fun b => !qb6 b) (by omega) (fun a ha => (qth CP (by omega) E 160 _ s).trans (hn a ha E s)) n (by omega)
theorem c161 (l : List Bs) (hl : l.length ≤ maxLen) : PC CP 161 [.p (.sl l.length (qaU Bs.cells l)), .p (.func 160 [] [])] (bl (l.any fun b => !qb6 b)) := by
 refine PC.ofI (cf := cf161) (np := 2) (args' := [.p (.sl l.length (qaU Bs.cells l)), .p (.func 160 [] [])]) (r := bl (l.any fun b => !qb6 b)) (by kernel_rfl) (by kernel_rfl) rfl rfl rfl rfl rfl ((c192 l hl).mono fun n h E s => (s161_eq _ _ _ _ _).trans ?_)
 unfold s161
 simp only [h, qab, qag, ge1, Option.map_some, Option.bind_some, qe6 (qkL _ l)]
theorem qpX (t : Ty) (hl : t.ps.length ≤ maxLen) : PC CP 101 [t.v] (bl (qd5 t)) := by
 refine PC.of (cf := cf101) (np := 1) (args' := [t.v]) (r := bl (qd5 t)) (by kernel_rfl) (by kernel_rfl) rfl rfl rfl rfl (fun _ => rfl) (((qip t.res).and (c161 t.ps hl)).mono fun n ⟨h1, h2⟩ E s _ _ => ⟨s, (s101_eq _ _ _ _).trans ?_⟩)
 have h1' := fun E s => h1 E s
 simp only [Bs.v] at h1'
 have h0 : Int.ofNat t.ps.length = 0 ↔ t.ps.isEmpty = true := by
  rw [List.isEmpty_iff, ← List.length_eq_zero_iff]
  simp only [Int.ofNat_eq_natCast]; omega
 have h3 : (t.ps.any fun b => !qb6 b) = !(t.ps.all qb6) := by rw [List.any_eq_not_all_not]; simp
 unfold s101 s101_0
 simp only [Ty.v, qil, qn9, qkG, qrw, Option.bind_some, h1', h2, qab, qav, qaa, qau, qcV, qag, qaq, Option.map_some, h3, Bool.not_not, qd5]
 cases qb6 t.res with
 | false => rfl
 | true =>
  cases t.ps.all qb6 with
  | false => rfl
  | true =>
   cases he : t.ps.isEmpty with
   | true => rw [decide_eq_true (h0.2 he)]; rfl
   | false => rw [decide_eq_false (fun e => by rw [h0.1 e] at he; cases he)]; rfl
end Go.AI.Tryz
namespace Go.AI
def qcZ (a : Ar) : Int :=
 if decide (8 < a.ids.length) || a.ids.any (fun t => decide (5 < t.ps.length)) then 5
 else if !qb6 a.root || a.ids.any (fun t => !qd5 t) then 4 else 0
end Go.AI
namespace Go.AI.Tryz
theorem c99 (t : Ty) : PC CP 99 [t.v] (bl (decide (5 < t.ps.length))) := by
 refine PC.of (cf := cf99) (np := 1) (args' := [t.v]) (r := bl (decide (5 < t.ps.length))) (by kernel_rfl) (by kernel_rfl) rfl rfl rfl rfl (fun _ => rfl) (Ev.of fun n E s _ _ => ⟨s, (s99_eq _ _ _ _).trans ?_⟩)
 unfold s99
 have : ((5 : Int) < Int.ofNat t.ps.length) = (5 < t.ps.length) := by simp only [Int.ofNat_eq_natCast, eq_iff_iff]; omega
 simp only [Ty.v, qil, qkG, Option.bind_some, qcV, qag, qbe, Option.map_some, this]
theorem c100 (t : Ty) (hl : t.ps.length ≤ maxLen) : PC CP 100 [t.v] (bl (!qd5 t)) := by
 refine PC.of (cf := cf100) (np := 1) (args' := [t.v]) (r := bl (!qd5 t)) (by kernel_rfl) (by kernel_rfl) rfl rfl rfl rfl (fun _ => rfl) ((qpX t hl).mono fun n h E s _ _ => ⟨s, (s100_eq _ _ _ _).trans ?_⟩)
 have h' := fun E s => h E s
 unfold s100
 simp only [Ty.v] at h' ⊢
 simp only [qil, qqH, Option.bind_some, h', qab, qau]
theorem c162 (f : Nat) (p : Ty → Bool) (l : List Ty) (hl : l.length ≤ maxLen) (hf : ∀ t ∈ l, PC CP f [t.v] (bl (p t))) : PC CP 162 [.p (.sl l.length (qaU Ty.cells l)), .p (.func f [] [])] (i64 (qbv p l 0)) := by
 have hev : Ev fun n => ∀ t ∈ l, ∀ E s, cl (qae CP n E) f [t.v] s = some (bl (p t), s) := Ev.all l hf
 rw [qbF] at hl
 refine PC.ofI (cf := cf162) (np := 2) (args' := [.p (.sl l.length (qaU Ty.cells l)), .p (.func f [] [])]) (r := i64 (qbv p l 0)) (by kernel_rfl) (by kernel_rfl) rfl rfl rfl rfl rfl ((hev.and (Ev.ge (l.length + 1))).mono fun n ⟨hn, hm⟩ E s => (s162_eq _ _ _ _ _).trans ?_)
 unfold s162 s162_0
 rw [qcV, Option.bind_some]
 exact qhA (c := Ty.cells) (sz := 3) (fun _ => rfl) (qae CP n E) s (.p (.func f [] [])) l p (by omega) (fun a ha => (qth CP (by omega) E f _ s).trans (hn a ha E s)) n (by omega)
theorem quv (f : Nat) (p : Ty → Bool) (l : List Ty) (hl : l.length ≤ maxLen) (hf : ∀ t ∈ l, PC CP f [t.v] (bl (p t))) : PC CP 102 [.p (.sl l.length (qaU Ty.cells l)), .p (.func f [] [])] (bl (l.any p)) := by
 refine PC.ofI (cf := cf102) (np := 2) (args' := [.p (.sl l.length (qaU Ty.cells l)), .p (.func f [] [])]) (r := bl (l.any p)) (by kernel_rfl) (by kernel_rfl) rfl rfl rfl rfl rfl ((c162 f p l hl hf).mono fun n h E s => (s102_eq _ _ _ _ _).trans ?_)
 unfold s102
 simp only [h, qab, qag, ge1, Option.map_some, Option.bind_some, qe6 (qkL p l)]
theorem qjO (a : Ar) (ok : a.Ok) : PC CP 56 [a.v] (i64 (qcZ a)) := by
 refine PC.of (cf := cf56) (np := 1) (args' := [a.v]) (r := i64 (qcZ a)) (by kernel_rfl) (by kernel_rfl) rfl rfl rfl rfl (fun _ => rfl)
  (((qip a.root).and ((quv 99 (fun t => decide (5 < t.ps.length)) a.ids ok.1 fun t _ => c99 t).and (quv 100 (fun t => !qd5 t) a.ids ok.1 fun t ht => c100 t (ok.2.1 t ht).1))).mono fun n ⟨h1, h2, h3⟩ E s _ _ => ⟨s, (s56_eq _ _ _ _).trans ?_⟩)
 have h1' := fun E s => h1 E s
 simp only [Bs.v] at h1'
 have e : ((8 : Int) < Int.ofNat a.ids.length) = (8 < a.ids.length) := by simp only [Int.ofNat_eq_natCast, eq_iff_iff]; omega
 unfold s56 s56_1 s56_0
 simp only [Ar.v, qaL, qoa, qcd, Option.bind_some, h1', h2, h3, qab, qav, qaa, qau, qcV, qag, qbe, Option.map_some, e, qcZ]
 cases decide (8 < a.ids.length) with
 | true => rfl
 | false =>
  cases a.ids.any (fun t => decide (5 < t.ps.length)) with
  | true => rfl
  | false =>
   cases qb6 a.root with
   | false => rfl
   | true =>
    cases a.ids.any (fun t => !qd5 t) <;> rfl
def qmJ (a : Ar) : Bool := decide (a.ids.length ≤ 20) && a.ids.all fun t => decide (t.ps.length ≤ 20)
theorem qkM (a : Ar) (ok : a.Ok) : PC CP 38 [a.v] (bl (qmJ a)) := by
 refine PC.of (cf := cf38) (np := 1) (args' := [a.v]) (r := bl (qmJ a)) (by kernel_rfl) (by kernel_rfl) rfl rfl rfl rfl (fun _ => rfl) ((Ev.ge (a.ids.length + 1)).mono fun n hm E s _ _ => ⟨s, (s38_eq _ _ _ _).trans ?_⟩)
 have e : ((20 : Int) < Int.ofNat a.ids.length) = (20 < a.ids.length) := by simp only [Int.ofNat_eq_natCast, eq_iff_iff]; omega
 unfold s38
 simp only [Ar.v, qaL, qcd, Option.bind_some, qaa, qcV, qag, qbe, Option.map_some, e, qmJ]
 by_cases h : 20 < a.ids.length
 ·rw [decide_eq_true h, decide_eq_false (show ¬ a.ids.length ≤ 20 by omega)]; rfl
 ·rw [decide_eq_false h, decide_eq_true (show a.ids.length ≤ 20 by omega), cond_false, Bool.true_and]
  unfold s38_0
  generalize hF : (fun (h7 : AVal → Res) (x6 : AVal) => _) = F
  refine qfn _ F a.ids.length (fun j L => L (i64 (.ofNat j))) (fun j => some (bl ((a.ids.drop j).all fun t => decide (t.ps.length ≤ 20)), s)) (fun j L hj ih => ?_) (fun L => ?_) n 0 (Nat.zero_le _) (by omega)
  ·subst hF
   have hk : a.ids[j]? = some a.ids[j] := List.getElem?_eq_getElem hj
   have hdr : a.ids.drop j = a.ids[j] :: a.ids.drop (j + 1) := List.drop_eq_getElem_cons hj
   have hld : ldH (qae CP n E) s (.elem (qaU Ty.cells a.ids) (j * 3)) none = some (.p (.sl a.ids[j].ps.length (qaU Bs.cells a.ids[j].ps))) := qkK (c := Ty.cells) (sz := 3) (fun _ => rfl) _ s hk (by omega)
   have e2 : ((20 : Int) < Int.ofNat a.ids[j].ps.length) = (20 < a.ids[j].ps.length) := by simp only [Int.ofNat_eq_natCast, eq_iff_iff]; omega
   simp only [qcd, Option.bind_some, qcV, qag, qaE, qbe, qaH, Option.map_some, of_lt.2 hj, decide_true, qaa, cond_true, qcY hj, qab, hld, e2, qa7 (show j < 9223372036854775807 by omega), hdr, List.all_cons]
   by_cases h2 : 20 < a.ids[j].ps.length
   ·rw [decide_eq_true h2, decide_eq_false (show ¬ a.ids[j].ps.length ≤ 20 by omega)]; rfl
   ·rw [decide_eq_false h2, decide_eq_true (show a.ids[j].ps.length ≤ 20 by omega), cond_false, Bool.true_and]
    exact ih
  ·subst hF
   have h3 : ¬ (Int.ofNat a.ids.length < Int.ofNat a.ids.length) := fun h => Nat.lt_irrefl _ (of_lt.1 h)
   simp only [qcd, Option.bind_some, qcV, qag, qaE, Option.map_some, h3, decide_false, qaa, cond_false, List.drop_length]
   rfl
end Go.AI.Tryz
namespace Go.AI
theorem qti (e : Env) {sz b m : Nat} {cs : List PVal} (s : ASt) (hl : cs.length = m * sz) (hb : m * b ≤ 140737488355328) : ∃ tk s', ap e sz b (.sl 0 [] .full) (.p (.sl m cs)) s = some (.sl m cs tk, s') := by
 unfold ap stV
 have h1 : Nat.ble ((0 + m) * b) 140737488355328 = true := ble_iff.2 (by rw [Nat.zero_add]; exact hb)
 have h2 : Nat.beq cs.length (m * sz) = true := qaz hl
 have h3 : Nat.beq ([] : List PVal).length (0 * sz) = true := qaz (by simp)
 simp only [qaB, Arg.ev, qcU, Option.bind_some, h1, h2, h3, Bool.and_self, cond_true]
 cases m with
 | zero =>
  rw [Nat.zero_mul] at hl
  have : cs = [] := List.length_eq_zero_iff.1 hl
  subst this
  exact ⟨.full, s, rfl⟩
 | succ m =>
  refine ⟨.own s.ntok, { s with ntok := s.ntok + 1, toks := (s.ntok, m + 1, sz) :: s.toks }, ?_⟩
  simp only [Nat.beq, cond_false, Nat.zero_add, List.nil_append]
theorem qiq (x : PVal) : qna (.p x) (.p x) = true := qhr x
end Go.AI
namespace Go.AI.Tryz
theorem qmK (t : Ty) (hl : t.ps.length ≤ 1000000) : PC CP 43 [t.v] t.v := by
 refine Ev.succ (Ev.of fun n E s => ?_)
 rw [qbL]
 obtain ⟨tk, s', hap⟩ := qti (qae CP n (s.heap ++ E)) (sz := 2) (b := 16) { s with heap := [], toks := [] } (qcH (c := Bs.cells) (fun _ => rfl) t.ps) (by omega)
 refine qgq (cf := cf43) (np := 1) (args' := [t.v]) (v := .agg [.sl t.ps.length (qaU Bs.cells t.ps) tk, bl t.res.cell, i64 t.res.n]) (s' := s') (by kernel_rfl) (by kernel_rfl) rfl rfl rfl ((s43_eq _ _ _ _).trans ?_) rfl rfl
 unfold s43
 have h1 : ms 0 [] [] = some (.sl 0 [] .full) := rfl
 have h2 : ∀ x y z : AVal, cut [x, y, z] 1 2 = some [y, z] := fun _ _ _ => rfl
 have h3 : ∀ x y z : AVal, bd [.sl 0 [] .full, bl false, i64 0] [(0, none, .c (.sl t.ps.length (qaU Bs.cells t.ps) tk)), (1, some 2, .c (.agg [y, z]))] = some (.agg [.sl t.ps.length (qaU Bs.cells t.ps) tk, y, z]) := fun _ _ _ => rfl
 simp only [Ty.v, qil, qqH, qn9, qkG, qkH, Option.bind_some, h1, hap, qab, h2, h3 un, qaX, qdi, qiq, Bool.and_self]
theorem qu2 (t : Ty) (zs : List PVal) (hz : zs.length = 3) : ms 1 zs [(0, some 3, .c t.v)] = some (.sl 1 t.cells .full) := by
 match zs, hz with
 | [a, b, c], _ => rfl
theorem qrC (a : Ar) (h1 : a.ids.length ≤ 1000000) (h2 : ∀ t ∈ a.ids, t.ps.length ≤ 1000000) : PC CP 14 [a.v] a.v := by
 have hev : Ev fun n => ∀ x ∈ a.ids, ∀ E s, cl (qae CP n E) 43 [x.v] s = some (x.v, s) := Ev.all a.ids fun x hx => qmK x (h2 x hx)
 let f : Nat → List PVal := fun j => qaU Ty.cells (a.ids.take j)
 have hfl : f a.ids.length = qaU Ty.cells a.ids := by simp only [f, List.take_length]
 let r : ASt → AVal := fun s => .agg [qfB f s.ntok a.ids.length, bl a.root.cell, i64 a.root.n, bl a.jumps]
 have her : ∀ s, qaA (r s) = a.v := by
  intro s
  unfold Ar.v
  rw [← hfl, ← qdX f s.ntok a.ids.length rfl]
  rfl
 refine Ev.succ ((hev.and (Ev.ge (a.ids.length + 1))).mono fun n ⟨hn, hm⟩ E s => ?_)
 rw [qbL]
 refine qgq (cf := cf14) (np := 1) (args' := [a.v]) (v := r { s with heap := [], toks := [] }) (s' := qkc { s with heap := [], toks := [] } 3 a.ids.length) (by kernel_rfl) (by kernel_rfl) rfl rfl rfl ((s14_eq _ _ _ _).trans ?_) (her _) rfl
 generalize hs : ({ s with heap := [], toks := [] } : ASt) = s0
 generalize s.heap ++ E = E'
 have hbd : ∀ x y z : AVal, bd [.sl 0 [] .full, bl false, i64 0, bl false] [(1, some 2, .c (.agg [x, y])), (3, none, .c (bl a.jumps))] = some (.agg [.sl 0 [] .full, x, y, bl a.jumps]) := fun _ _ _ => rfl
 have hj4 : ∀ x y z w : AVal, ldL [x, y, z, w] 3 none = some w := fun _ _ _ _ => rfl
 unfold s14
 simp only [Ar.v, qaL, qoa, hj4, hbd _ _ un, qcB, Option.bind_some]
 unfold s14_0
 generalize hF : (fun (h13 : AVal → List AVal → List AVal → List AVal → ASt → Res) (x8 : AVal) (c9 c10 c11 : List AVal) (s12 : ASt) => _) = F
 refine qfn _ F a.ids.length (fun j L => L (i64 (.ofNat j)) [.p (.sl a.ids.length (qaU Ty.cells a.ids)), bl a.root.cell, i64 a.root.n, bl a.jumps] [.sl 0 [] .full, bl false, i64 0, bl false] [qfB f s0.ntok j, bl a.root.cell, i64 a.root.n, bl a.jumps] (qkc s0 3 j)) (fun _ => some (r s0, qkc s0 3 a.ids.length)) (fun j L hj ih => ?_) (fun L => ?_) n 0 (Nat.zero_le _) (by omega)
 ·subst hF
  have hk : a.ids[j]? = some a.ids[j] := List.getElem?_eq_getElem hj
  have hld : ∀ s, ldH (qae CP n E') s (.elem (qaU Ty.cells a.ids) (j * 3)) (some 3) = some a.ids[j].v := fun s => qd4 (c := Ty.cells) (sz := 3) (fun _ => rfl) _ s hk
  have hcv : AVal.cells none (qfB f s0.ntok (j + 1)) = some [qfB f s0.ntok (j + 1)] := rfl
  have hap := qlS (qae CP n E') (b := 40) (f := f) (y := .sl 1 a.ids[j].cells .full) s0 j rfl (Ty.len _) (by omega) (qc6 hj)
  simp only [qcd, Option.bind_some, qcV, qag, qaE, qaH, Option.map_some, of_lt.2 hj, decide_true, qaa, cond_true, qcY hj, qab, hld, hn a.ids[j] (List.getElem_mem hj), qu2 _ [.sl 0 [], .bool false, .int .i64 0] rfl, hap, hcv, qfP, qa7 (show j < 9223372036854775807 by omega)]
  exact ih
 ·subst hF
  have h3 : ¬ (Int.ofNat a.ids.length < Int.ofNat a.ids.length) := fun h => Nat.lt_irrefl _ (of_lt.1 h)
  simp only [qcd, Option.bind_some, qcV, qag, qaE, Option.map_some, h3, decide_false, qaa, cond_false, qbo, qaL, qcB]
  rfl
end Go.AI.Tryz
namespace Go.AI
theorem Tm.size_eq (t : Tm) : t.size = 1 + Tm.sizeL t.ks := by cases t; simp only [Tm.size, Tm.ks]
theorem qqK (a b : Nat) : mm false (i64 (.ofNat a)) (i64 (.ofNat b)) = some (i64 (.ofNat (min a b))) := by
 unfold mm pu
 simp only [qax, Arg.ev, qcL, cond_false, of_lt]
 rcases Nat.lt_or_ge b a with h | h
 ·have e : min a b = b := by omega
  simp only [h, decide_true, cond_true, e]
 ·have e : min a b = a := by omega
  have h' : ¬ b < a := by omega
  simp only [h', decide_false, cond_false, e]
theorem qhB {l : List Tm} {j : Nat} (h : j < l.length) : Tm.sizeL (l.drop j) = l[j].size + Tm.sizeL (l.drop (j + 1)) := by
 rw [List.drop_eq_getElem_cons h, Tm.sizeL]
end Go.AI
namespace Go.AI.Tryz
theorem qrD (t : Tm) : t.Ok → PC CP 32 [t.v] (i64 (.ofNat (min 601 t.size))) := by
 induction t using Tm.ind with
 | h k n m i ks ihk =>
  intro ok
  have ihk' : ∀ x ∈ (Tm.mk k n m i ks).ks, x.Ok → PC CP 32 [x.v] (i64 (.ofNat (min 601 x.size))) := ihk
  clear ihk
  generalize Tm.mk k n m i ks = t at ok ihk' ⊢
  have hev : Ev fun n => ∀ x ∈ t.ks, ∀ E s, cl (qae CP n E) 32 [x.v] s = some (i64 (.ofNat (min 601 x.size)), s) := Ev.all t.ks fun x hx => ihk' x hx (ok.kids x hx)
  have hlen := ok.len
  rw [qbF] at hlen
  refine PC.of (cf := cf32) (np := 1) (args' := [t.v]) (r := i64 (.ofNat (min 601 t.size))) (by kernel_rfl) (by kernel_rfl) rfl (by simp only [List.all_cons, qan]; rfl) (by simp only [List.map_cons, qao]; rfl) rfl (fun _ => rfl) ?_
  refine (hev.and (Ev.ge (t.ks.length + 1))).mono fun n ⟨hn, hm⟩ E s _ _ => ⟨s, (s32_eq _ _ _ _).trans ?_⟩
  unfold s32
  simp only [Tm.v_eq, qaN, Option.bind_some]
  unfold s32_1
  generalize hF : (fun (h6 : AVal → AVal → ASt → Res) (x3 x4 : AVal) (s5 : ASt) => _) = F
  let acc : Nat → Nat := fun j => 1 + ((t.ks.take j).map fun x => min 601 x.size).sum
  have hal : ∀ j, acc j ≤ 1 + 601 * j := by
   intro j
   induction j with
   | zero => simp only [acc, List.take_zero, List.map_nil, List.sum_nil]; omega
   | succ j ih =>
    rcases Nat.lt_or_ge j t.ks.length with h | h
    ·simp only [acc] at ih ⊢
     rw [List.take_succ_eq_append_getElem h, List.map_append, List.sum_append]
     simp only [List.map_cons, List.map_nil, List.sum_cons, List.sum_nil]
     omega
    ·simp only [acc] at ih ⊢
     rw [List.take_of_length_le (by omega)]
     rw [List.take_of_length_le (by omega)] at ih
     omega
  have hend : i64 (.ofNat (min 601 t.size)) = i64 (.ofNat (min 601 (acc 0 + Tm.sizeL (t.ks.drop 0)))) := by
   rw [t.size_eq]
   rfl
  rw [hend]
  refine qfn _ F t.ks.length (fun j L => L (i64 (.ofNat (acc j))) (i64 (.ofNat j)) s) (fun j => some (i64 (.ofNat (min 601 (acc j + Tm.sizeL (t.ks.drop j)))), s)) (fun j L hj ih => ?_) (fun L => ?_) n 0 (Nat.zero_le _) (by omega)
  ·subst hF
   simp only
   unfold s32_0
   have hk : t.ks[j]? = some t.ks[j] := List.getElem?_eq_getElem hj
   have hacc : acc (j + 1) = acc j + min 601 t.ks[j].size := by
    simp only [acc]
    rw [List.take_succ_eq_append_getElem hj, List.map_append, List.sum_append]
    simp only [List.map_cons, List.map_nil, List.sum_cons, List.sum_nil]
    omega
   simp only [qav, qbq, Option.bind_some, qcV, qag, qaE, qep, qaH, Option.map_some, of_lt.2 hj, decide_true, qaa, cond_true, Tm.ia_kid hj, qab, Tm.ld_kid _ _ hk]
   by_cases h7 : acc j ≤ 600
   ·have h8 : ¬ ((600 : Int) < Int.ofNat (acc j)) := by simp only [Int.ofNat_eq_natCast]; omega
    have w2 : qa8 .i64 (Int.ofNat (acc j) + Int.ofNat (min 601 t.ks[j].size)) = Int.ofNat (acc (j + 1)) := by
     rw [qbT (by simp only [Int.ofNat_eq_natCast]; omega) (by simp only [Int.ofNat_eq_natCast]; omega), hacc]
     simp only [Int.ofNat_eq_natCast]; omega
    simp only [h8, decide_false, Bool.not_false, cond_true, hn t.ks[j] (List.getElem_mem hj) E s, qab, qag, qaH, Option.map_some, Option.bind_some, w2, qa7 (show j < 9223372036854775807 by omega)]
    rw [qhB hj]
    have : min 601 (acc j + (t.ks[j].size + Tm.sizeL (t.ks.drop (j + 1)))) = min 601 (acc (j + 1) + Tm.sizeL (t.ks.drop (j + 1))) := by rw [hacc]; omega
    rw [this]
    exact ih
   ·have h8 : (600 : Int) < Int.ofNat (acc j) := by simp only [Int.ofNat_eq_natCast]; omega
    have hm1 : mm false (i64 (.ofNat (acc j))) (i64 601) = some (i64 (.ofNat (min 601 (acc j + Tm.sizeL (t.ks.drop j))))) := by
     have e1 : min 601 (acc j + Tm.sizeL (t.ks.drop j)) = min (acc j) 601 := by omega
     rw [e1]
     exact qqK _ 601
    simp only [h8, decide_true, Bool.not_true, cond_false, hm1, Option.bind_some]
  ·subst hF
   simp only
   unfold s32_0
   have h3 : ¬ (Int.ofNat t.ks.length < Int.ofNat t.ks.length) := fun h => Nat.lt_irrefl _ (of_lt.1 h)
   have hm1 : mm false (i64 (.ofNat (acc t.ks.length))) (i64 601) = some (i64 (.ofNat (min 601 (acc t.ks.length)))) := by
    rw [Nat.min_comm]
    exact qqK _ 601
   simp only [qav, qbq, Option.bind_some, qcV, qag, qaE, Option.map_some, h3, decide_false, qaa, cond_false, hm1]
   rw [List.drop_length]
   rfl
end Go.AI.Tryz
namespace Go.AI
mutual
def Tm.cnt2 : Tm → Nat
 | .mk _ _ _ _ ks => Tm.cnt2L 1 ks
def Tm.cnt2L : Nat → List Tm → Nat
 | a, [] => a
 | a, t :: r => if 600 < a then a else Tm.cnt2L (a + Tm.cnt2 t) r
end
theorem Tm.cnt2_eq (t : Tm) : t.cnt2 = Tm.cnt2L 1 t.ks := by cases t; simp only [Tm.cnt2, Tm.ks]
def Cok (t : Tm) : Prop := t.cnt2 ≤ t.size ∧ (t.size ≤ 600 → t.cnt2 = t.size) ∧ (600 < t.size → 600 < t.cnt2)
theorem Tm.cnt2L_ok : ∀ (l : List Tm) (a : Nat), (∀ t ∈ l, Cok t) → Tm.cnt2L a l ≤ a + Tm.sizeL l ∧ (a + Tm.sizeL l ≤ 600 → Tm.cnt2L a l = a + Tm.sizeL l) ∧ (600 < a + Tm.sizeL l → 600 < Tm.cnt2L a l)
 | [], a, _ => by simp only [Tm.cnt2L, Tm.sizeL]; omega
 | t :: r, a, h => by
  obtain ⟨h1, h2, h3⟩ := h t (List.mem_cons_self ..)
  obtain ⟨i1, i2, i3⟩ := Tm.cnt2L_ok r (a + t.cnt2) fun u hu => h u (List.mem_cons_of_mem _ hu)
  simp only [Tm.cnt2L, Tm.sizeL]
  split
  ·omega
  ·refine ⟨by omega, fun h => ?_, fun h => ?_⟩
   ·have := h2 (by omega)
    have := i2 (by omega)
    omega
   ·rcases Nat.lt_or_ge 600 t.size with g | g
    ·have := h3 g
     exact i3 (by omega)
    ·have := h2 g
     exact i3 (by omega)
theorem Tm.cnt2_ok (t : Tm) : Cok t := by
 induction t using Tm.ind with
 | h k n m i ks ih =>
  have := Tm.cnt2L_ok ks 1 ih
  unfold Cok
  simp only [Tm.cnt2, Tm.size]
  exact this
theorem Tm.size_kid {l : List Tm} {x : Tm} (h : x ∈ l) : x.size ≤ Tm.sizeL l := by
 induction l with
 | nil => cases h
 | cons a r ih =>
  simp only [Tm.sizeL]
  rcases List.mem_cons.1 h with rfl | h
  ·omega
  ·have := ih h; omega
end Go.AI
namespace Go.AI.Tryz
theorem qpY (t : Tm) : t.Ok → t.size ≤ 1000000000 → PC CP 57 [t.v] (i64 (.ofNat t.cnt2)) := by
 induction t using Tm.ind with
 | h k n m i ks ihk =>
  intro ok hsz
  have ihk' : ∀ x ∈ (Tm.mk k n m i ks).ks, x.Ok → x.size ≤ 1000000000 → PC CP 57 [x.v] (i64 (.ofNat x.cnt2)) := ihk
  clear ihk
  generalize Tm.mk k n m i ks = t at ok ihk' hsz ⊢
  have hks : ∀ x ∈ t.ks, x.size ≤ 1000000000 := fun x hx => by have := Tm.size_kid hx; rw [t.size_eq] at hsz; omega
  have hev : Ev fun n => ∀ x ∈ t.ks, ∀ E s, cl (qae CP n E) 57 [x.v] s = some (i64 (.ofNat x.cnt2), s) := Ev.all t.ks fun x hx => ihk' x hx (ok.kids x hx) (hks x hx)
  have hlen := ok.len
  rw [qbF] at hlen
  refine PC.of (cf := cf57) (np := 1) (args' := [t.v]) (r := i64 (.ofNat t.cnt2)) (by kernel_rfl) (by kernel_rfl) rfl (by simp only [List.all_cons, qan]; rfl) (by simp only [List.map_cons, qao]; rfl) rfl (fun _ => rfl) ?_
  refine (hev.and (Ev.ge (t.ks.length + 1))).mono fun n ⟨hn, hm⟩ E s _ _ => ⟨s, (s57_eq _ _ _ _).trans ?_⟩
  unfold s57
  simp only [Tm.v_eq, qaN, Option.bind_some, qbq, qcV, qav]
  unfold s57_1
  generalize hF : (fun (h17 : AVal → AVal → Nat → List AVal → List AVal → ASt → Res) (x11 x12 : AVal) (g13 : Nat) (c14 c15 : List AVal) (s16 : ASt) => _) = F
  have hend : i64 (.ofNat t.cnt2) = i64 (.ofNat (Tm.cnt2L 1 (t.ks.drop 0))) := by
   rw [t.cnt2_eq]
   rfl
  rw [hend]
  have key : ∀ k (j a g : Nat) (c : List AVal), j ≤ t.ks.length → t.ks.length - j < k → a + Tm.sizeL (t.ks.drop j) ≤ 1000000000 → lp (fun _ _ _ _ _ _ => none) F k (i64 (.ofNat a)) (i64 (.ofNat j)) g [u8 t.k, i64 t.n, i64 t.m, i64 t.i, .p (.sl t.ks.length (Tm.cellsL t.ks))] c s = some (i64 (.ofNat (Tm.cnt2L a (t.ks.drop j))), s) := by
   intro k
   induction k with
   | zero => intro j a g c _ h; omega
   | succ k ih =>
    intro j a g c hj hk hs
    rw [qa9]
    generalize lp _ _ k = L at ih ⊢
    subst hF
    rcases Nat.lt_or_ge j t.ks.length with h | h
    ·have hkj : t.ks[j]? = some t.ks[j] := List.getElem?_eq_getElem h
     rw [qhB h] at hs
     have hc := (t.ks[j].cnt2_ok).1
     rw [List.drop_eq_getElem_cons h, Tm.cnt2L]
     simp only [qag, qaE, qbe, qaH, Option.map_some, Option.bind_some, of_lt.2 h, decide_true, qaa, cond_true, Tm.ia_kid h, qab, Tm.ld_kid _ _ hkj, Tm.v_eq t.ks[j], qaN, qgv, Nat.beq_refl]
     by_cases h7 : 600 < a
     ·have h8 : (600 : Int) < Int.ofNat a := by simp only [Int.ofNat_eq_natCast]; omega
      simp only [h8, h7, decide_true, cond_true, if_true]
      rfl
     ·have h8 : ¬ ((600 : Int) < Int.ofNat a) := by simp only [Int.ofNat_eq_natCast]; omega
      have hn' := hn t.ks[j] (List.getElem_mem h) E s
      rw [Tm.v_eq] at hn'
      have w2 : qa8 .i64 (Int.ofNat a + Int.ofNat t.ks[j].cnt2) = Int.ofNat (a + t.ks[j].cnt2) := by
       rw [qbT (by simp only [Int.ofNat_eq_natCast]; omega) (by simp only [Int.ofNat_eq_natCast]; omega)]
       simp only [Int.ofNat_eq_natCast]; omega
      simp only [h8, h7, decide_false, cond_false, qbI, Option.bind_some, hn', qab, qag, qaH, Option.map_some, w2, qa7 (show j < 9223372036854775807 by omega), if_false]
      exact ih (j + 1) _ _ _ (by omega) (by omega) (by omega)
    ·have : j = t.ks.length := by omega
     subst this
     have h3 : ¬ (Int.ofNat t.ks.length < Int.ofNat t.ks.length) := fun h => Nat.lt_irrefl _ (of_lt.1 h)
     simp only [qag, qaE, Option.map_some, Option.bind_some, h3, decide_false, qaa, cond_false]
     rw [List.drop_length]
     rfl
  refine key n 0 1 0 [] (Nat.zero_le _) (by omega) ?_
  rw [t.size_eq] at hsz
  exact hsz
end Go.AI.Tryz
namespace Go.AI
def qkN (t : Tm) : Bool := decide (qgx 700 200 t ≤ 700)
end Go.AI
namespace Go.AI.Tryz
def qmL (a : Ar) (t : Tm) : Bool := qmJ a && qkN t && (decide (t.size ≤ 60) || decide (600 < t.size))
theorem qrE (t : Tm) (ok : t.Ok) : PC CP 39 [t.v] (bl (qkN t)) := by
 refine PC.of (cf := cf39) (np := 1) (args' := [t.v]) (r := bl (qkN t)) (by kernel_rfl) (by kernel_rfl) rfl (by simp only [List.all_cons, qan]; rfl) (by simp only [List.map_cons, qao]; rfl) rfl (fun _ => rfl) ((qtg 200 (by decide) t ok).mono fun n h E s _ _ => ⟨s, (s39_eq _ _ _ _).trans ?_⟩)
 have h' := h E s
 unfold s39
 have e : (!decide ((700 : Int) < Int.ofNat (qgx 700 200 t))) = qkN t := by
  unfold qkN
  rcases Nat.lt_or_ge 700 (qgx 700 200 t) with g | g
  ·have g' : (700 : Int) < Int.ofNat (qgx 700 200 t) := by simp only [Int.ofNat_eq_natCast]; omega
   simp only [g', decide_true, Bool.not_true]
   exact (decide_eq_false (by omega)).symm
  ·have g' : ¬ ((700 : Int) < Int.ofNat (qgx 700 200 t)) := by simp only [Int.ofNat_eq_natCast]; omega
   simp only [g', decide_false, Bool.not_false]
   exact (decide_eq_true g).symm
 simp only [Tm.v_eq] at h' ⊢
 simp only [qaN, qbI, Option.bind_some]
 rw [show (i64 200 : AVal) = i64 (.ofNat 200) from rfl, h']
 simp only [qab, qag, qep, Option.map_some, Option.bind_some, e]
theorem qtj (a : Ar) (t : Tm) (oa : a.Ok) (ok : t.Ok) : PC CP 11 [a.v, t.v] (bl (qmL a t)) := by
 refine PC.of (cf := cf11) (np := 2) (args' := [a.v, t.v]) (r := bl (qmL a t)) (by kernel_rfl) (by kernel_rfl) rfl (by simp only [List.all_cons, qan]; rfl) (by simp only [List.map_cons, qao]; rfl) rfl (fun _ => rfl) (((qkM a oa).and ((qrE t ok).and (qrD t ok))).mono fun n ⟨h1, h2, h3⟩ E s _ _ => ⟨s, (s11_eq _ _ _ _ _).trans ?_⟩)
 have h1' := h1 E s
 have h2' := h2 E s
 have h3' := h3 E s
 unfold s11
 simp only [Tm.v_eq, Ar.v] at h1' h2' h3' ⊢
 simp only [qaN, qaL, qbI, qbo, Option.bind_some, h1', h2', qab, qau, qaa, qav]
 unfold s11_1 s11_0
 unfold qmL
 cases qmJ a
 ·rfl
 ·cases qkN t
  ·rfl
  ·simp only [Bool.not_true, cond_false, qaa, qbI, Option.bind_some, h3', qab, qav, qag, qep, qbe, Option.map_some, Bool.true_and]
   rcases Nat.lt_or_ge 60 t.size with g | g
   ·have e1 : (60 : Int) < Int.ofNat (min 601 t.size) := by simp only [Int.ofNat_eq_natCast]; omega
    have e2 : decide ((600 : Int) < Int.ofNat (min 601 t.size)) = decide (600 < t.size) := by
     simp only [Int.ofNat_eq_natCast]
     exact decide_eq_decide.2 (by omega)
    have e3 : ¬ t.size ≤ 60 := by omega
    simp only [e1, decide_true, Bool.not_true, cond_false, e2, e3, decide_false, Bool.false_or]
   ·have e1 : ¬ (60 : Int) < Int.ofNat (min 601 t.size) := by simp only [Int.ofNat_eq_natCast]; omega
    simp only [e1, decide_false, Bool.not_false, cond_true, g, decide_true, Bool.true_or]
end Go.AI.Tryz
namespace Go.AI
def qdp (n m i : Bool) (k : Int) : PVal := .agg [.bool n, .bool m, .bool i, .int .i64 k]
def qbc : List (PVal × PVal) :=
 [(.int .u8 1, qdp true true false 0), (.int .u8 2, qdp false false true (-1)), (.int .u8 3, qdp false false true 0), (.int .u8 4, qdp false false true 1),
  (.int .u8 5, qdp true true false 2), (.int .u8 6, qdp true false false 1), (.int .u8 7, qdp false false false 2), (.int .u8 8, qdp false false false 3),
  (.int .u8 9, qdp false false false 2), (.int .u8 10, qdp true true false 1), (.int .u8 11, qdp false false false 2), (.int .u8 12, qdp true false false 0),
  (.int .u8 13, qdp false false false 2), (.int .u8 14, qdp false false false 0), (.int .u8 15, qdp false false true 0), (.int .u8 16, qdp false false true 0),
  (.int .u8 17, qdp false false false 2), (.int .u8 18, qdp true false true 1)]
def qbY (s : ASt) (es : List (PVal × PVal)) : ASt := { s with next := s.next + 1, heap := (s.next, .map es) :: s.heap }
theorem os {α β : Type} {x : Option α} {y : α} {K : α → Option β} (h : x = some y) : x.bind K = K y := by subst h; rfl
theorem qpZ {e : Env} {s : ASt} {k : Int} {es es' : List (PVal × PVal)} {x : AVal} {y : PVal} {K : AVal → ASt → Res} (hy : AVal.pureW x = some y) (hp : qff es (.int .u8 k) y = some es') :
  qac (ins e 1 (.map s.next) (u8 k) x (qbY s es)) K = K qai (qbY s es') := by
 have : ins e 1 (.map s.next) (u8 k) x (qbY s es) = some (qai, qbY s es') := by
  unfold ins stV qbY
  simp only [qaB, Arg.ev, qam, qaF, Nat.beq_refl, cond_true, qc7, hy, hp, Option.bind_some, Option.map_some]
 rw [this]
 rfl
theorem s58_run (e : Env) (n : Nat) (s : ASt) : Go.AI.Tryz.s58 e n s = some (.map s.next, qbY s qbc) := by
 unfold Go.AI.Tryz.s58
 have h0 : mkm e s = some (.map s.next, qbY s []) := rfl
 rw [h0, qab]
 iterate 18 (refine (os rfl).trans ?_; refine (qpZ rfl rfl).trans ?_)
 rfl
end Go.AI
namespace Go.AI
structure Se where
 ty : Ty
 arg : Bool
namespace Se
def cells (x : Se) : List PVal := x.ty.cells ++ [.bool x.arg]
def v (x : Se) : AVal := .agg (x.cells.map .p)
def none : Se := ⟨⟨[], ⟨false, 0⟩⟩, false⟩
theorem len (x : Se) : x.cells.length = 4 := rfl
theorem v_eq (x : Se) : x.v = .agg [.p (.sl x.ty.ps.length (qaU Bs.cells x.ty.ps)), bl x.ty.res.cell, i64 x.ty.res.n, bl x.arg] := rfl
end Se
structure Sc where
 ids : List Se
 top : Int
 size : Int
namespace Sc
def v (x : Sc) (l : Nat) : AVal := .agg [.p (.sl x.ids.length (qaU Se.cells x.ids)), i64 x.top, i64 x.size, .map l]
def get (x : Sc) (i : Int) : Option Se := if i < 1 then .none else x.ids[(i - 1).toNat]?
end Sc
def QC (f : Nat) (args : Nat → List AVal) (r : Nat → AVal) : Prop :=
 Ev fun n => ∀ E s l, qcn E s l = some qbc → ∃ s', cl (qae Tryz.CP n E) f (args l) s = some (r l, s') ∧ s'.heap = s.heap ∧ s'.next = s.next
theorem qaM {E : qaJ} {s s' : ASt} {l : Nat} (h : s'.heap = s.heap) : qcn E s' l = qcn E s l := by unfold qcn; rw [h]
theorem QC.of {f np : Nat} {cf : CF} {args args' : Nat → List AVal} {r r' : Nat → AVal} (hcf : Tryz.CP f = some cf) (hfl : flI cf np = true) (hl : ∀ l, (args l).length = np) (ha : ∀ l, (args l).all qbj = true) (hargs : ∀ l, (args l).map qaA = args' l)
  (hv : ∀ l, qaA (r l) = r' l) (hpl : ∀ l, qlc (r' l) = true)
  (hb : Ev fun n => ∀ E s l, qcn E s l = some qbc → ∃ v s', qat cf (qae Tryz.CP n E) n (args' l) s = some (v, s') ∧ qaA v = r' l ∧ s'.heap = s.heap ∧ s'.next = s.next) : QC f args r' := by
 refine Ev.succ (hb.mono fun n h E s l hm => ?_)
 obtain ⟨v, s', h, hr, h1, h2⟩ := h E s l hm
 refine ⟨s', ?_, h1, h2⟩
 rw [qbL]
 exact qe4 hcf hfl (hl l) (ha l) (hargs l) h hr (hpl l)
end Go.AI
namespace Go.AI.Tryz
theorem forms_c : Ev fun n => ∀ E s, cl (qae CP n E) 58 [] s = some (.map s.next, qbY s qbc) := by
 refine Ev.succ (Ev.of fun n E s => ?_)
 rw [qbL]
 exact qe4 (cf := cf58) (np := 0) (args' := []) (v := .map s.next) (by kernel_rfl) (by kernel_rfl) rfl rfl rfl ((s58_eq _ _ _).trans (s58_run _ _ _)) rfl rfl
def qby (n : Int) : Bool := !decide (n < 1) && !decide (64 < n)
def qbw (n m : Int) : Bool := !decide (n < 0) && decide (n < m)
theorem qfQ (n : Int) : PC CP 193 [i64 n] (bl (qby n)) := by
 refine PC.of (cf := cf193) (np := 1) (args' := [i64 n]) (r := bl (qby n)) (by kernel_rfl) (by kernel_rfl) rfl rfl rfl rfl (fun _ => rfl) (Ev.of fun _ E s _ _ => ⟨s, (s193_eq _ _ _ _).trans ?_⟩)
 unfold s193 s193_0 qby
 simp only [qav, qag, qkJ, qep, Option.map_some, Option.bind_some, qaa]
 cases decide (n < 1) <;> rfl
theorem qeH (n m : Int) : PC CP 194 [i64 n, i64 m] (bl (qbw n m)) := by
 refine PC.of (cf := cf194) (np := 2) (args' := [i64 n, i64 m]) (r := bl (qbw n m)) (by kernel_rfl) (by kernel_rfl) rfl rfl rfl rfl (fun _ => rfl) (Ev.of fun _ E s _ _ => ⟨s, (s194_eq _ _ _ _ _).trans ?_⟩)
 unfold s194 s194_0 qbw
 simp only [qav, qag, qkJ, qaE, Option.map_some, Option.bind_some, qaa]
 cases decide (n < 0) <;> rfl
theorem qu3 (x : Sc) (i : Int) (hl : x.ids.length ≤ 1000000) : QC 164 (fun l => [x.v l, i64 i]) (fun _ => .tuple [((x.get i).getD .none).v, bl (x.get i).isSome]) := by
 refine QC.of (cf := cf164) (np := 2) (args' := fun l => [x.v l, i64 i]) (r := fun _ => .tuple [((x.get i).getD .none).v, bl (x.get i).isSome]) (by kernel_rfl) (by kernel_rfl) (fun _ => rfl) (fun _ => rfl) (fun _ => rfl) (fun _ => rfl) (fun _ => rfl)
  (Ev.of fun n E s l hm => ?_)
 rw [s164_eq]
 suffices ∃ v, s164 (qae CP n E) n (x.v l) (i64 i) s = some (v, s) ∧ qaA v = .tuple [((x.get i).getD .none).v, bl (x.get i).isSome] by
  obtain ⟨v, h, h'⟩ := this
  exact ⟨v, s, h, h', rfl, rfl⟩
 unfold s164
 have h5 : bd [.sl 0 [] .full, bl false, i64 0, bl false] [] = some (.agg [.sl 0 [] .full, bl false, i64 0, bl false]) := rfl
 unfold Sc.get Sc.v
 simp only [qaL, Option.bind_some, qav, qag, qaE, Option.map_some, qaa, qcd, qcV, qbe]
 unfold s164_0
 have hbad : ∀ j : Option Se, j = .none → ∃ v, some (AVal.tuple [.agg [.sl 0 [] .full, bl false, i64 0, bl false], bl false], s) = some (v, s) ∧ qaA v = .tuple [(j.getD .none).v, bl j.isSome] := by
  rintro _ rfl
  exact ⟨_, rfl, rfl⟩
 by_cases h1 : i < 1
 ·simp only [h1, decide_true, cond_true, qaa, if_true, h5, qaL, qbo, qcB, Option.bind_some]
  exact hbad _ rfl
 ·simp only [h1, decide_false, cond_false, if_false]
  by_cases h2 : Int.ofNat x.ids.length < i
  ·simp only [h2, decide_true, cond_true, qaa, h5, qaL, qbo, qcB, Option.bind_some]
   refine hbad _ (List.getElem?_eq_none ?_)
   simp only [Int.ofNat_eq_natCast] at h2
   omega
  ·simp only [Int.ofNat_eq_natCast] at h2
   obtain ⟨j, rfl⟩ : ∃ j : Nat, i = Int.ofNat j + 1 := ⟨(i - 1).toNat, by simp only [Int.ofNat_eq_natCast]; omega⟩
   simp only [Int.ofNat_eq_natCast] at h1 h2
   have hj : j < x.ids.length := by omega
   have hk : x.ids[j]? = some x.ids[j] := List.getElem?_eq_getElem hj
   have w : qa8 .i64 (Int.ofNat j + 1 - 1) = Int.ofNat j := by
    rw [qbT (by simp only [Int.ofNat_eq_natCast]; omega) (by simp only [Int.ofNat_eq_natCast]; omega)]
    omega
   have ht : (Int.ofNat j + 1 - 1).toNat = j := by simp only [Int.ofNat_eq_natCast]; omega
   have h2' : ¬ (Int.ofNat x.ids.length < Int.ofNat j + 1) := by simp only [Int.ofNat_eq_natCast]; omega
   have hld := qd4 (c := Se.cells) (sz := 4) (fun _ => rfl) (qae CP n E) s hk
   simp only [h2', decide_false, cond_false, qaa, qcd, Option.bind_some, qag, qbP, Option.map_some, w, qcY hj, qab, hld, ht, hk]
   exact ⟨_, rfl, rfl⟩
end Go.AI.Tryz
namespace Go.AI.Tryz
theorem qlT (x : Sc) (i : Int) (hl : x.ids.length ≤ 1000000) : QC 106 (fun l => [x.v l, i64 i]) (fun _ => .tuple [i64 ((x.get i).getD .none).ty.res.n, bl ((x.get i).any fun e => e.ty.res.cell)]) := by
 refine QC.of (cf := cf106) (np := 2) (args' := fun l => [x.v l, i64 i]) (r := fun _ => .tuple [i64 ((x.get i).getD .none).ty.res.n, bl ((x.get i).any fun e => e.ty.res.cell)]) (by kernel_rfl) (by kernel_rfl) (fun _ => rfl) (fun _ => rfl) (fun _ => rfl) (fun _ => rfl) (fun _ => rfl)
  ((qu3 x i hl).mono fun n h E s l hm => ?_)
 obtain ⟨s', h', hh, hn⟩ := h E s l hm
 rw [s106_eq]
 unfold s106
 unfold Sc.v at h' ⊢
 simp only [qaL, Option.bind_some, qbo, h', qab, qah]
 unfold s106_0
 have hz : ∀ y : Se, AVal.cells (some 4) y.v = some (y.cells.map .p) := fun _ => rfl
 have ho : ∀ y : Se, over [.sl 0 [] .full, bl false, i64 0, bl false] 0 (y.cells.map .p) = some (y.cells.map .p) := fun _ => rfl
 have h2 : ∀ y : Se, ldL (y.cells.map .p) 2 none = some (i64 y.ty.res.n) := fun _ => rfl
 have h1 : ∀ y : Se, ldL (y.cells.map .p) 1 none = some (bl y.ty.res.cell) := fun _ => rfl
 have g0 : ∀ a b : AVal, qeb [a, b] 0 = some a := fun _ _ => rfl
 have g1 : ∀ a b : AVal, qeb [a, b] 1 = some b := fun _ _ => rfl
 simp only [g0, g1, Option.bind_some, hz, ho, qav, h2, h1, qaa]
 refine ?_
 cases x.get i with
 | none => exact ⟨_, s', rfl, rfl, hh, hn⟩
 | some y => exact ⟨_, s', rfl, rfl, hh, hn⟩
end Go.AI.Tryz
namespace Go.AI.Tryz
def qir (s : ASt) (n sz : Nat) : ASt := { s with ntok := s.ntok + 1, toks := (s.ntok, n, sz) :: s.toks }
theorem qob (e : Env) {sz b m : Nat} {cs : List PVal} (s : ASt) (hl : cs.length = (m + 1) * sz) (hb : (m + 1) * b ≤ 140737488355328) : ap e sz b (.sl 0 [] .full) (.p (.sl (m + 1) cs)) s = some (.sl (m + 1) cs (.own s.ntok), qir s (m + 1) sz) := by
 unfold ap stV
 have h1 : Nat.ble ((0 + (m + 1)) * b) 140737488355328 = true := ble_iff.2 (by rw [Nat.zero_add]; exact hb)
 have h2 : Nat.beq cs.length ((m + 1) * sz) = true := qaz hl
 have h3 : Nat.beq ([] : List PVal).length (0 * sz) = true := qaz (by simp)
 simp only [qaB, Arg.ev, qcU, Option.bind_some, h1, h2, h3, Bool.and_self, cond_true]
 simp only [Nat.beq, cond_false, Nat.zero_add, List.nil_append]
 rfl
theorem qoc {e : Env} {n : Nat} {cf : CF} {args : List AVal} {s s' : ASt} {v : AVal} (hd : args.length < 2 ^ cf.depth) (hb : qat cf e n args { s with heap := [], toks := [] } = some (v, s')) (hrf : qcc cf.body = true) : qle e n cf args s = some v := by
 obtain ⟨r, h1, h2, h3⟩ := qii hrf hd hb
 unfold qle
 rw [h1, Option.bind_some, h2]
theorem qod {n f : Nat} {E : qaJ} {cf : CF} {args args' : List AVal} {s s' : ASt} {v : AVal} (hcf : CP f = some cf) (hp : cf.pure = false) (hc : cf.clone = true) (hkA : cf.keepA = false) (hkR : cf.keepR = true) (hl : args.length = cf.np) (hd : cf.np < 2 ^ cf.depth) (ha : args.all qbj = true)
  (hargs : args.map qaA = args') (hn : qfg args' = false) (hb : qat cf (qae CP n E) n args' s = some (v, s')) (hpl : qlc v = true) (hrf : qcc cf.body = true := by kernel_rfl) : (qae CP (n + 1) E).call f args s = some (v, s') := by
 subst hargs
 rw [qdc]
 unfold qbW
 rw [hcf, Option.bind_some, qaz hl, ha, hc, hp, hn, hkA, hkR]
 simp only [Bool.and_self, Bool.and_false, cond_true, cond_false]
 have hlen : (args.map qaA).length < 2 ^ cf.depth := by simp [hl, hd]
 obtain ⟨r, h1, h2, h3⟩ := qii hrf hlen hb
 rw [h1, Option.bind_some, h2, Option.bind_some, hpl, cond_true, h3]
theorem qlU {n f : Nat} {E : qaJ} {cf : CF} {args : List AVal} {s sa sb : ASt} {a b : AVal} (hcf : CP f = some cf) (hc : cf.clone = true) (hl : args.length = cf.np) (hd : 1 < 2 ^ cf.depth) (ha : args.all qbj = true)
  (hn : qfg (args.map qaA) = true) (h1 : qat cf (qae CP n (s.heap ++ E)) n [.p .nilSl] { s with heap := [], toks := [] } = some (a, sa)) (h2 : qat cf (qae CP n (s.heap ++ E)) n [.p .emSl] { s with heap := [], toks := [] } = some (b, sb))
  (i1 : qed a = true) (i2 : qed b = true) (hrf : qcc cf.body = true := by kernel_rfl) : (qae CP (n + 1) E).call f args s = some (.sl 0 [] .full, s) := by
 rw [qdc]
 unfold qbW
 have e1 : qle (qae CP n (s.heap ++ E)) n cf [.p .nilSl] s = some a := qoc (by exact hd) h1 hrf
 have e2 : qle (qae CP n (s.heap ++ E)) n cf [.p .emSl] s = some b := qoc (by exact hd) h2 hrf
 rw [hcf, Option.bind_some, qaz hl, ha, hc, hn, e1, e2]
 simp only [Bool.and_self, cond_true, Option.bind_some, i1, i2]
def qoe (s : ASt) : List Se → AVal × ASt
 | [] => (.sl 0 [] .full, s)
 | a :: r => (.sl (r.length + 1) (qaU Se.cells (a :: r)) (.own s.ntok), qir s (r.length + 1) 4)
theorem qrF (l : List Se) (hl : l.length ≤ 1000000) : Ev fun n => ∀ E s, cl (qae CP n E) 165 [.p (.sl l.length (qaU Se.cells l))] s = some (qoe s l) := by
 refine Ev.succ (Ev.of fun n E s => ?_)
 rw [qbL]
 have h3 : ms 0 [] [] = some (.sl 0 [] .full) := rfl
 cases l with
 | nil =>
  refine qlU (cf := cf165) (a := .sl 0 [] .full) (b := .sl 0 [] .full) (sa := { s with heap := [], toks := [] }) (sb := { s with heap := [], toks := [] }) (by kernel_rfl) (by kernel_rfl) (by kernel_rfl) (of_decide_eq_true (by kernel_rfl)) rfl rfl ((s165_eq _ _ _ _).trans ?_) ((s165_eq _ _ _ _).trans ?_) rfl rfl <;> rfl
 | cons a r =>
  refine qod (cf := cf165) (args' := [.p (.sl (r.length + 1) (qaU Se.cells (a :: r)))]) (by kernel_rfl) (by kernel_rfl) (by kernel_rfl) (by kernel_rfl) (by kernel_rfl) (by kernel_rfl) (of_decide_eq_true (by kernel_rfl)) rfl rfl rfl ((s165_eq _ _ _ _).trans ?_) rfl
  unfold s165
  have hq : eqv 5 false (.p (.sl (r.length + 1) (qaU Se.cells (a :: r)))) (.sl 0 [] .full) = some (bl false) := rfl
  have hlen : (qaU Se.cells (a :: r)).length = (r.length + 1) * 4 := qcH (c := Se.cells) (fun _ => rfl) (a :: r)
  have hap := qob (qae CP n E) (sz := 4) (b := 48) s hlen (by simp only [List.length_cons] at hl; omega)
  simp only [hq, Option.bind_some, qaa, cond_false, h3, hap, qab]
end Go.AI.Tryz
namespace Go.AI
def Sc.with (x : Sc) (y : Se) : Sc := { x with ids := x.ids ++ [y] }
theorem qgy {α : Type} (c : α → List PVal) (l : List α) (a : α) : qaU c (l ++ [a]) = qaU c l ++ c a := by
 rw [qeq]
 simp only [qaU, List.append_nil]
end Go.AI
namespace Go.AI.Tryz
theorem qqL (x : Sc) (y : Se) (yv : AVal) (hya : qbj yv = true) (hye : qaA yv = y.v) (hl : x.ids.length ≤ 1000000) : QC 107 (fun l => [x.v l, yv]) (fun l => (x.with y).v l) := by
 refine QC.of (cf := cf107) (np := 2) (args' := fun l => [x.v l, y.v]) (r := fun l => (x.with y).v l) (by kernel_rfl) (by kernel_rfl) (fun _ => rfl) (fun _ => by simp only [List.all_cons, hya]; rfl) (fun _ => by simp only [List.map_cons, hye]; rfl) (fun _ => rfl) (fun _ => rfl)
  ((qrF x.ids hl).mono fun n h E s l hm => ?_)
 have h' := h E s
 rw [s107_eq]
 unfold s107
 have hyc : AVal.cells (some 4) y.v = some (y.cells.map .p) := rfl
 have hyl : ldL (y.cells.map .p) 0 (some 4) = some y.v := rfl
 have hms : ms 1 [.sl 0 [], .bool false, .int .i64 0, .bool false] [(0, some 4, .c y.v)] = some (.sl 1 y.cells .full) := rfl
 unfold Sc.v at ⊢
 simp only [qaL, Option.bind_some, qcd, h', hyc, hyl, hms]
 have hx : ∀ cs : List PVal, ∀ tk, AVal.cells none (.sl (x.ids.length + 1) cs tk) = some [.sl (x.ids.length + 1) cs tk] := fun _ _ => rfl
 have hlen : (x.with y).ids.length = x.ids.length + 1 := by simp only [Sc.with, List.length_append, List.length_cons, List.length_nil]
 have hrow : qaU Se.cells (x.with y).ids = qaU Se.cells x.ids ++ y.cells := qgy _ _ _
 rw [hlen, hrow]
 clear hx hlen hrow h'
 cases hi : x.ids with
 | nil =>
  have hap := qio (qae CP n E) (sz := 4) (b := 48) (new := y.cells) (y := .sl 1 y.cells .full) s rfl rfl (by omega)
  simp only [qoe, qab, List.length_nil, hap, qin, Option.bind_some, qfP, qbo, qaL, qcB]
  exact ⟨_, _, rfl, rfl, rfl, rfl⟩
 | cons a r =>
  rw [hi] at hl
  simp only [List.length_cons] at hl
  have hap := qn8 (qae CP n E) (sz := 4) (b := 48) (n := r.length + 1) (t := s.ntok) (cs := qaU Se.cells (a :: r)) (new := y.cells) (y := .sl 1 y.cells .full) (qir s (r.length + 1) 4) rfl rfl (by omega) s.toks
  have e1 : { qir s (r.length + 1) 4 with toks := (s.ntok, r.length + 1, 4) :: s.toks } = qir s (r.length + 1) 4 := rfl
  rw [e1] at hap
  simp only [qoe, qab, List.length_cons, hap, qin, Option.bind_some, qfP, qbo, qaL, qcB]
  exact ⟨_, _, rfl, rfl, rfl, rfl⟩
end Go.AI.Tryz
namespace Go.AI
structure Form where
 n : Bool
 m : Bool
 i : Bool
 k : Int
def Form.cell (f : Form) : PVal := qdp f.n f.m f.i f.k
def formL : List (Int × Form) :=
 [(1, ⟨true, true, false, 0⟩), (2, ⟨false, false, true, -1⟩), (3, ⟨false, false, true, 0⟩), (4, ⟨false, false, true, 1⟩), (5, ⟨true, true, false, 2⟩), (6, ⟨true, false, false, 1⟩),
  (7, ⟨false, false, false, 2⟩), (8, ⟨false, false, false, 3⟩), (9, ⟨false, false, false, 2⟩), (10, ⟨true, true, false, 1⟩), (11, ⟨false, false, false, 2⟩), (12, ⟨true, false, false, 0⟩),
  (13, ⟨false, false, false, 2⟩), (14, ⟨false, false, false, 0⟩), (15, ⟨false, false, true, 0⟩), (16, ⟨false, false, true, 0⟩), (17, ⟨false, false, false, 2⟩), (18, ⟨true, false, true, 1⟩)]
def qcl : List (Int × Form) → Int → Option Form
 | [], _ => none
 | (k, f) :: r, i => if i = k then some f else qcl r i
theorem qkO : qbc = formL.map fun x => (.int .u8 x.1, x.2.cell) := rfl
theorem qjP (i : Int) : ∀ l : List (Int × Form), qc3 (l.map fun x => (.int .u8 x.1, x.2.cell)) (.int .u8 i) = some ((qcl l i).map Form.cell)
 | [] => rfl
 | (k, f) :: r => by
  have : qq2 (.int .u8 i) (.int .u8 k) = some (ieq i k) := rfl
  simp only [List.map_cons, qc3, this, Option.bind_some, qcl, qb9]
  by_cases h : i = k
  ·simp only [h, decide_true, cond_true, if_true, Option.map_some]
  ·simp only [h, decide_false, cond_false, if_false]
   exact qjP i r
def qbA (t : Tm) : Bool := match qcl formL t.k with
 | none => false
 | some f => (f.n || decide (t.n = 0)) && (f.m || decide (t.m = 0)) && (f.i || decide (t.i = 0)) && (decide (f.k < 0) || decide (f.k = Int.ofNat t.ks.length))
theorem qp0 {e : Env} {s : ASt} {l : Nat} {z : AVal} {k : Int} (h : qcn e.E s l = some qbc) : lk e 1 z true (.map l) (u8 k) s = some (match qcl formL k with | some f => .tuple [.agg [bl f.n, bl f.m, bl f.i, i64 f.k], bl true] | none => .tuple [z, bl false], s) := by
 unfold lk stV
 simp only [qaB, Arg.ev, h, Option.bind_some, qc7, cond_true]
 rw [qkO, qjP]
 cases qcl formL k with
 | none => rfl
 | some f => rfl
end Go.AI
namespace Go.AI.Tryz
theorem qce (x : Sc) (t : Tm) : QC 105 (fun l => [x.v l, t.v]) (fun l => bl (qbA t)) := by
 refine QC.of (cf := cf105) (np := 2) (args' := fun l => [x.v l, t.v]) (r := fun l => bl (qbA t)) (by kernel_rfl) (by kernel_rfl) (fun _ => rfl) (fun _ => by simp only [List.all_cons, qan]; rfl) (fun _ => by simp only [List.map_cons, qao]; rfl) (fun _ => rfl) (fun _ => rfl)
  (Ev.of fun n E s l hm => ⟨bl (qbA t), s, (s105_eq _ _ _ _ _).trans ?_, rfl, rfl, rfl⟩)
 have hm' : qcn (qae CP n E).E s l = some qbc := by rw [qaQ]; exact hm
 unfold s105 s105_0
 unfold Sc.v
 simp only [Tm.v_eq, qaL, qaN, qim, qbt, Option.bind_some, qp0 hm', qab]
 have g0 : ∀ a b : AVal, qeb [a, b] 0 = some a := fun _ _ => rfl
 have g1 : ∀ a b : AVal, qeb [a, b] 1 = some b := fun _ _ => rfl
 unfold qbA
 cases qcl formL t.k with
 | none => simp only [qah, g0, g1, Option.bind_some, qaL, qcB, qav, qaa, cond_false]
 | some f =>
  obtain ⟨fn, fm, fi, fk⟩ := f
  simp only [qah, g0, g1, Option.bind_some, qaL, qcB, qav, qaa, cond_true, qcd, qkI, qgu, qim, qcq, qcC, qdM, qbq, qcV, qag, qaE, qaq, Option.map_some]
  generalize decide (fk = Int.ofNat t.ks.length) = b4
  generalize decide (fk < 0) = b5
  generalize decide (t.n = 0) = b1
  generalize decide (t.m = 0) = b2
  generalize decide (t.i = 0) = b3
  cases fn <;> cases fm <;> cases fi <;> cases b1 <;> cases b2 <;> cases b3 <;> cases b5 <;> rfl
end Go.AI.Tryz
namespace Go.AI
theorem qar (a b : AVal) : qeb [a, b] 0 = some a := rfl
theorem qas (a b : AVal) : qeb [a, b] 1 = some b := rfl
abbrev SzC (x : Sc) (t : Tm) (r : Int × Bool) : Prop := QC 163 (fun l => [x.v l, t.v]) (fun _ => .tuple [i64 r.1, bl r.2])
abbrev IsC (x : Sc) (t : Tm) (n : Int) (b : Bool) : Prop := QC 104 (fun l => [x.v l, t.v, i64 n]) (fun _ => bl b)
end Go.AI
namespace Go.AI.Tryz
theorem qg5 {x : Sc} {t : Tm} {r : Int × Bool} (n : Int) (h : SzC x t r) : IsC x t n (r.2 && decide (r.1 = n)) := by
 refine QC.of (cf := cf104) (np := 3) (args' := fun l => [x.v l, t.v, i64 n]) (r := fun l => bl (r.2 && decide (r.1 = n))) (by kernel_rfl) (by kernel_rfl) (fun _ => rfl) (fun _ => by simp only [List.all_cons, qan]; rfl) (fun _ => by simp only [List.map_cons, qao]; rfl) (fun _ => rfl) (fun _ => rfl)
  (h.mono fun n' h E s l hm => ?_)
 obtain ⟨s', h', hh, hn⟩ := h E s l hm
 refine ⟨bl (r.2 && decide (r.1 = n)), s', (s104_eq _ _ _ _ _ _).trans ?_, rfl, hh, hn⟩
 unfold s104 s104_0
 simp only [Tm.v_eq, Sc.v] at h' ⊢
 simp only [qaL, qaN, qbo, qbI, Option.bind_some, h', qab, qah, qar, qas, qav, qaa, qag, qaq, Option.map_some]
 cases r.2 <;> rfl
theorem qkP {x y : Sc} {t u : Tm} {r q : Int × Bool} (h : SzC y t r) (g : SzC x u q) : QC 206 (fun l => [x.v l, y.v l, t.v, u.v]) (fun _ => .tuple [i64 r.1, bl (r.2 && (q.2 && decide (q.1 = r.1)))]) := by
 refine QC.of (cf := cf206) (np := 4) (args' := fun l => [x.v l, y.v l, t.v, u.v]) (r := fun _ => .tuple [i64 r.1, bl (r.2 && (q.2 && decide (q.1 = r.1)))]) (by kernel_rfl) (by kernel_rfl) (fun _ => rfl) (fun _ => by simp only [List.all_cons, qan]; rfl) (fun _ => by simp only [List.map_cons, qao]; rfl) (fun _ => rfl) (fun _ => rfl)
  ((h.and (qg5 r.1 g)).mono fun n' ⟨h, g⟩ E s l hm => ?_)
 obtain ⟨s', h', hh, hn⟩ := h E s l hm
 obtain ⟨s2, g', gh, gn⟩ := g E s' l (by rw [qaM hh]; exact hm)
 suffices ∃ s3, s206 (qae CP n' E) n' (x.v l) (y.v l) t.v u.v s = some (.tuple [i64 r.1, bl (r.2 && (q.2 && decide (q.1 = r.1)))], s3) ∧ s3.heap = s.heap ∧ s3.next = s.next by
  obtain ⟨s3, e, e1, e2⟩ := this
  exact ⟨_, s3, (s206_eq _ _ _ _ _ _ _).trans e, rfl, e1, e2⟩
 unfold s206 s206_0
 simp only [Tm.v_eq, Sc.v] at h' g' ⊢
 simp only [qaL, qaN, qbo, qbI, Option.bind_some, h', qab, qah, qar, qas, qav, qaa]
 cases hr : r.2
 ·exact ⟨s', rfl, hh, hn⟩
 ·simp only [cond_true, g', qab, Bool.true_and]
  exact ⟨s2, rfl, gh.trans hh, gn.trans hn⟩
end Go.AI.Tryz
namespace Go.AI
def qbB (f : Tm → Bs → Bool) : List Tm → List Bs → Bool
 | [], [] => true
 | t :: r, b :: q => f t b && qbB f r q
 | _, _ => false
theorem qhC (f : Tm → Bs → Bool) : ∀ (ks : List Tm) (ps : List Bs), ks.length ≠ ps.length → qbB f ks ps = false
 | [], [], h => absurd rfl h
 | [], _ :: _, _ => rfl
 | _ :: _, [], _ => rfl
 | t :: r, b :: q, h => by
  simp only [qbB, qhC f r q (by simp only [List.length_cons] at h; omega), Bool.and_false]
theorem Bs.v_eq (b : Bs) : b.v = .agg [bl b.cell, i64 b.n] := rfl
theorem qof (CP : Nat → Option CF) {n : Nat} (hn : 1 ≤ n) (E : qaJ) (f : Nat) (x a b : AVal) (s : ASt) : clv (qae CP n E) (.func f [x] []) [a, b] s = cl (qae CP n E) f [x, a, b] s := by
 obtain ⟨m, rfl⟩ : ∃ m, n = m + 1 := ⟨n - 1, by omega⟩
 rw [qgr, qbL]
 rfl
end Go.AI
namespace Go.AI.Tryz
theorem qu4 (x : Sc) (ks : List Tm) (ps : List Bs) (f : Tm → Bs → Bool) (h1 : ks.length ≤ maxLen) (hf : ∀ p ∈ ks.zip ps, QC 59 (fun l => [x.v l, p.1.v, p.2.v]) (fun _ => bl (f p.1 p.2))) :
  QC 205 (fun l => [.p (.sl ks.length (Tm.cellsL ks)), .p (.sl ps.length (qaU Bs.cells ps)), .func 59 [x.v l] []]) (fun _ => bl (qbB f ks ps)) := by
 have hev : Ev fun n => ∀ p ∈ ks.zip ps, ∀ E s l, qcn E s l = some qbc → ∃ s', cl (qae CP n E) 59 [x.v l, p.1.v, p.2.v] s = some (bl (f p.1 p.2), s') ∧ s'.heap = s.heap ∧ s'.next = s.next := Ev.all _ hf
 rw [qbF] at h1
 refine QC.of (cf := cf205) (np := 3) (args' := fun l => [.p (.sl ks.length (Tm.cellsL ks)), .p (.sl ps.length (qaU Bs.cells ps)), .func 59 [x.v l] []]) (r := fun _ => bl (qbB f ks ps)) (by kernel_rfl) (by kernel_rfl) (fun _ => rfl) (fun _ => rfl) (fun _ => rfl) (fun _ => rfl) (fun _ => rfl)
  ((hev.and (Ev.ge (ks.length + 1))).mono fun n ⟨hn, hm⟩ E s l hmap => ?_)
 suffices ∃ s3, s205 (qae CP n E) n (.p (.sl ks.length (Tm.cellsL ks))) (.p (.sl ps.length (qaU Bs.cells ps))) (.func 59 [x.v l] []) s = some (bl (qbB f ks ps), s3) ∧ s3.heap = s.heap ∧ s3.next = s.next by
  obtain ⟨s3, e, e1, e2⟩ := this
  exact ⟨_, s3, (s205_eq _ _ _ _ _ _).trans e, rfl, e1, e2⟩
 unfold s205
 simp only [qcV, Option.bind_some, qag, qbm, Option.map_some, qaa]
 by_cases hl : ks.length = ps.length
 ·have hl' : Int.ofNat ks.length = Int.ofNat ps.length := by rw [hl]
  simp only [hl', decide_true, Bool.not_true, cond_false]
  rw [← hl]
  unfold s205_0
  generalize hF : (fun (h14 : AVal → Nat → Nat → List AVal → List AVal → ASt → Res) (x8 : AVal) (g9 g10 : Nat) (c11 c12 : List AVal) (s13 : ASt) => _) = F
  have key : ∀ k (j g1 g2 : Nat) (c1 c2 : List AVal) (s : ASt), j ≤ ks.length → ks.length - j < k → qcn E s l = some qbc → ∃ s3, lp (fun _ _ _ _ _ _ => none) F k (i64 (.ofNat j)) g1 g2 c1 c2 s = some (bl (qbB f (ks.drop j) (ps.drop j)), s3) ∧ s3.heap = s.heap ∧ s3.next = s.next := by
   intro k
   induction k with
   | zero => intro j _ _ _ _ _ _ h; omega
   | succ k ih =>
    intro j g1 g2 c1 c2 s hj hk hs
    rw [qa9]
    generalize lp _ _ k = L at ih ⊢
    subst hF
    rcases Nat.lt_or_ge j ks.length with h | h
    ·have h' : j < ps.length := by omega
     have hkj : ks[j]? = some ks[j] := List.getElem?_eq_getElem h
     have hpj : ps[j]? = some ps[j] := List.getElem?_eq_getElem h'
     have hld := qd4 (c := Bs.cells) (sz := 2) (fun _ => rfl) (qae CP n E) s hpj
     have hld' : ldH (qae CP n E) s (.elem (qaU Bs.cells ps) (j * 2)) (some 2) = some (.agg [bl ps[j].cell, i64 ps[j].n]) := hld
     have hz : (ks[j], ps[j]) ∈ ks.zip ps := by
      have : j < (ks.zip ps).length := by rw [List.length_zip]; omega
      have e : (ks.zip ps)[j] = (ks[j], ps[j]) := List.getElem_zip ..
      rw [← e]
      exact List.getElem_mem this
     obtain ⟨s', hc, hh, hx⟩ := hn _ hz E s l hs
     have hia : iaV 2 (.p (.sl ks.length (qaU Bs.cells ps))) (i64 (.ofNat j)) = some (qaU Bs.cells ps, j * 2) := by
      rw [hl]
      exact qcY h'
     rw [List.drop_eq_getElem_cons h, List.drop_eq_getElem_cons h', qbB]
     rw [Bs.v_eq, Tm.v_eq ks[j]] at hc
     simp only [qag, qaE, Option.map_some, Option.bind_some, of_lt.2 h, decide_true, qaa, cond_true, Tm.ia_kid h, qab, Tm.ld_kid _ _ hkj, Tm.v_eq ks[j], qaN, qgv, Nat.beq_refl, hia, hld', qgt, qe5, qbI, qn2, qof CP (show 1 ≤ n by omega), hc, qau]
     cases f ks[j] ps[j]
     ·exact ⟨s', rfl, hh, hx⟩
     ·simp only [Bool.not_true, cond_false, qaH, Option.map_some, Option.bind_some, qa7 (show j < 9223372036854775807 by omega), Bool.true_and]
      obtain ⟨s3, e, e1, e2⟩ := ih (j + 1) (g1 + 1) (g2 + 1) _ _ s' (by omega) (by omega) (by rw [qaM hh]; exact hs)
      exact ⟨s3, e, e1.trans hh, e2.trans hx⟩
    ·have : j = ks.length := by omega
     subst this
     have h3 : ¬ (Int.ofNat ks.length < Int.ofNat ks.length) := fun h => Nat.lt_irrefl _ (of_lt.1 h)
     simp only [qag, qaE, Option.map_some, Option.bind_some, h3, decide_false, qaa, cond_false]
     rw [List.drop_length]
     rw [List.drop_of_length_le (by omega)]
     exact ⟨s, rfl, rfl, rfl⟩
  exact key n 0 0 0 [] [] s (Nat.zero_le _) (by omega) hmap
 ·have hl' : ¬ (Int.ofNat ks.length = Int.ofNat ps.length) := by simp only [Int.ofNat_eq_natCast]; omega
  simp only [hl', decide_false, Bool.not_false, cond_true]
  exact ⟨s, by rw [qhC f ks ps hl], rfl, rfl⟩
end Go.AI.Tryz
namespace Go.AI.Tryz
theorem qog (x : Sc) (ks : List Tm) (ps : List Bs) (f : Tm → Bs → Bool) (h1 : ks.length ≤ maxLen) (hf : ∀ p ∈ ks.zip ps, QC 59 (fun l => [x.v l, p.1.v, p.2.v]) (fun _ => bl (f p.1 p.2))) :
  QC 195 (fun l => [x.v l, .p (.sl ks.length (Tm.cellsL ks)), .p (.sl ps.length (qaU Bs.cells ps))]) (fun _ => bl (qbB f ks ps)) := by
 refine QC.of (cf := cf195) (np := 3) (args' := fun l => [x.v l, .p (.sl ks.length (Tm.cellsL ks)), .p (.sl ps.length (qaU Bs.cells ps))]) (r := fun _ => bl (qbB f ks ps)) (by kernel_rfl) (by kernel_rfl) (fun _ => rfl) (fun _ => rfl) (fun _ => rfl) (fun _ => rfl) (fun _ => rfl)
  ((qu4 x ks ps f h1 hf).mono fun n h E s l hmap => ?_)
 obtain ⟨s', h', hh, hn⟩ := h E s l hmap
 refine ⟨bl (qbB f ks ps), s', (s195_eq _ _ _ _ _ _).trans ?_, rfl, hh, hn⟩
 unfold s195
 unfold Sc.v at h' ⊢
 have hmf : ∀ a b c d : AVal, ldL [a, b, c, d] 0 (some 4) = some (.agg [a, b, c, d]) := fun _ _ _ _ => rfl
 have hm : mf 59 [.agg [.p (.sl x.ids.length (qaU Se.cells x.ids)), i64 x.top, i64 x.size, .map l]] [] = some (.func 59 [.agg [.p (.sl x.ids.length (qaU Se.cells x.ids)), i64 x.top, i64 x.size, .map l]] []) := rfl
 simp only [qaL, Option.bind_some, hmf, hm, h', qab]
def qdA (sz : Sc → Tm → Int × Bool) (x : Sc) (t : Tm) (b : Bs) : Bool :=
 if b.cell then
  qbA t &&
   (if t.k = 16 then (match x.get t.i with | some e => e.ty.res.cell && decide (e.ty.res.n = b.n) | none => false)
    else if t.k = 17 then
     (match t.ks with
      | u :: w :: _ => ((sz x u).2 && decide ((sz x u).1 = b.n)) && ((sz (x.with ⟨⟨[], ⟨false, b.n⟩⟩, true⟩) w).2 && decide ((sz (x.with ⟨⟨[], ⟨false, b.n⟩⟩, true⟩) w).1 = 1))
      | _ => false)
    else false)
 else (sz x t).2 && decide ((sz x t).1 = b.n)
theorem qlV {sz : Sc → Tm → Int × Bool} {x : Sc} {t : Tm} (b : Bs) (hl : x.ids.length ≤ 1000000) (h0 : SzC x t (sz x t)) (hk : ∀ u w r, t.ks = u :: w :: r → SzC x u (sz x u) ∧ SzC (x.with ⟨⟨[], ⟨false, b.n⟩⟩, true⟩) w (sz (x.with ⟨⟨[], ⟨false, b.n⟩⟩, true⟩) w)) :
  QC 59 (fun l => [x.v l, t.v, b.v]) (fun _ => bl (qdA sz x t b)) := by
 refine QC.of (cf := cf59) (np := 3) (args' := fun l => [x.v l, t.v, b.v]) (r := fun _ => bl (qdA sz x t b)) (by kernel_rfl) (by kernel_rfl) (fun _ => rfl) (fun _ => by simp only [List.all_cons, qan]; rfl) (fun _ => by simp only [List.map_cons, qao]; rfl) (fun _ => rfl) (fun _ => rfl) ?_
 have hu : ∀ u w r, t.ks = u :: w :: r → Ev fun n => ∀ E s l, qcn E s l = some qbc → ∃ s', cl (qae CP n E) 104 [x.v l, u.v, i64 b.n] s = some (bl ((sz x u).2 && decide ((sz x u).1 = b.n)), s') ∧ s'.heap = s.heap ∧ s'.next = s.next := fun u w r e => qg5 b.n (hk u w r e).1
 suffices hmain : Ev fun n => ∀ E s l, qcn E s l = some qbc → ∃ s3, s59 (qae CP n E) n (x.v l) t.v b.v s = some (bl (qdA sz x t b), s3) ∧ s3.heap = s.heap ∧ s3.next = s.next by
  refine hmain.mono fun n h E s l hm => ?_
  obtain ⟨s3, e, e1, e2⟩ := h E s l hm
  exact ⟨_, s3, (s59_eq _ _ _ _ _ _).trans e, rfl, e1, e2⟩
 cases hb : b.cell with
 | false =>
  refine (qg5 b.n h0).mono fun n h E s l hm => ?_
  obtain ⟨s', h', hh, hn⟩ := h E s l hm
  refine ⟨s', ?_, hh, hn⟩
  unfold s59 qdA
  simp only [Tm.v_eq, Sc.v, Bs.v_eq, hb] at h' ⊢
  simp only [qaL, qaN, qgt, qn3, qkF, qbo, qbI, Option.bind_some, qau, qaa, Bool.not_false, cond_true, h', qab]
  rfl
 | true =>
  let y : Se := ⟨⟨[], ⟨false, b.n⟩⟩, true⟩
  have hEv : Ev fun n => ∀ u w r, t.ks = u :: w :: r → (∀ E s l, qcn E s l = some qbc → ∃ s', cl (qae CP n E) 104 [x.v l, u.v, i64 b.n] s = some (bl ((sz x u).2 && decide ((sz x u).1 = b.n)), s') ∧ s'.heap = s.heap ∧ s'.next = s.next) ∧
    (∀ E s l, qcn E s l = some qbc → ∃ s', cl (qae CP n E) 104 [(x.with y).v l, w.v, i64 1] s = some (bl ((sz (x.with y) w).2 && decide ((sz (x.with y) w).1 = 1)), s') ∧ s'.heap = s.heap ∧ s'.next = s.next) := by
   match hks : t.ks with
   | [] => exact Ev.of fun n u w r h => nomatch h
   | [_] => exact Ev.of fun n u w r h => nomatch h
   | u :: w :: r =>
    refine ((qg5 b.n (hk u w r hks).1).and (qg5 1 (hk u w r hks).2)).mono fun n ⟨h1, h2⟩ u' w' r' h => ?_
    injection h with e1 e2
    injection e2 with e2 e3
    subst e1; subst e2
    exact ⟨h1, h2⟩
  refine (((qce x t).and (qlT x t.i hl)).and (hEv.and (qqL x y (.agg [.sl 0 [] .full, bl false, i64 b.n, bl true]) rfl rfl hl))).mono fun n ⟨⟨hf, hc⟩, ⟨hk2, hw⟩⟩ E s l hm => ?_
  obtain ⟨s1, f1, f2, f3⟩ := hf E s l hm
  have hm1 : qcn E s1 l = some qbc := by rw [qaM f2]; exact hm
  unfold s59 qdA
  simp only [Tm.v_eq, Sc.v, Bs.v_eq, hb] at f1 ⊢
  simp only [qaL, qaN, qgt, qn3, qkF, qbo, qbI, Option.bind_some, qau, qaa, Bool.not_true, cond_false, f1, qab]
  cases hok : qbA t with
  | false => exact ⟨s1, rfl, f2, f3⟩
  | true =>
   simp only [Bool.not_true, cond_false, qbt, Option.bind_some, qag, qaq, Option.map_some, qaa, if_true, Bool.true_and]
   by_cases k16 : t.k = 16
   ·obtain ⟨s2, c1, c2, c3⟩ := hc E s1 l hm1
    simp only [Sc.v] at c1
    simp only [k16, decide_true, cond_true, if_true, qdM, Option.bind_some, c1, qab, qah, qar, qas, qav, s59_0]
    refine ⟨s2, ?_, c2.trans f2, c3.trans f3⟩
    cases x.get t.i with
    | none => rfl
    | some e =>
     simp only [Option.getD_some, Option.any_some, qaa, qag, qaq, Option.map_some, Option.bind_some]
     cases e.ty.res.cell <;> rfl
   ·simp only [k16, decide_false, cond_false, if_false]
    by_cases k17 : t.k = 17
    ·have hlen : t.ks.length = 2 := by
      unfold qbA at hok
      rw [k17] at hok
      have e : qcl formL 17 = some ⟨false, false, false, 2⟩ := rfl
      simp only [e, Bool.and_eq_true] at hok
      have := hok.2
      simp only [Bool.or_eq_true, decide_eq_true_eq, Int.ofNat_eq_natCast] at this
      omega
     obtain ⟨u, w, hks⟩ : ∃ u w, t.ks = [u, w] := by
      match h : t.ks, hlen with
      | [u, w], _ => exact ⟨u, w, rfl⟩
     obtain ⟨g1, g2⟩ := hk2 u w [] hks
     obtain ⟨s2, a1, a2, a3⟩ := g1 E s1 l hm1
     have hm2 : qcn E s2 l = some qbc := by rw [qaM a2]; exact hm1
     obtain ⟨s3, b1, b2, b3⟩ := hw E s2 l hm2
     have hm3 : qcn E s3 l = some qbc := by rw [qaM b2]; exact hm2
     obtain ⟨s4, d1, d2, d3⟩ := g2 E s3 l hm3
     have i0 : iaV 5 (.p (.sl t.ks.length (Tm.cellsL t.ks))) (i64 0) = some (Tm.cellsL t.ks, 0 * 5) := Tm.ia_kid (j := 0) (by omega)
     have i1 : iaV 5 (.p (.sl t.ks.length (Tm.cellsL t.ks))) (i64 1) = some (Tm.cellsL t.ks, 1 * 5) := Tm.ia_kid (j := 1) (by omega)
     have l0 : ∀ s, ldH (qae CP n E) s (.elem (Tm.cellsL t.ks) (0 * 5)) (some 5) = some u.v := fun s => Tm.ld_kid _ _ (by rw [hks]; rfl)
     have l1 : ∀ s, ldH (qae CP n E) s (.elem (Tm.cellsL t.ks) (1 * 5)) (some 5) = some w.v := fun s => Tm.ld_kid _ _ (by rw [hks]; rfl)
     have q1 : bd [bl false, i64 0] [(1, none, .c (i64 b.n))] = some (.agg [bl false, i64 b.n]) := rfl
     have q2 : bd [.sl 0 [] .full, bl false, i64 0] [(1, some 2, .c (.agg [bl false, i64 b.n]))] = some (.agg [.sl 0 [] .full, bl false, i64 b.n]) := rfl
     have q3 : bd [.sl 0 [] .full, bl false, i64 0, bl false] [(0, some 3, .c (.agg [.sl 0 [] .full, bl false, i64 b.n])), (3, none, .c (bl true))] = some (.agg [.sl 0 [] .full, bl false, i64 b.n, bl true]) := rfl
     simp only [Sc.v] at a1 b1 d1
     simp only [k17, decide_true, cond_true, if_true, qav, qbq, Option.bind_some, i0, qab, l0, a1, qaa]
     rw [hks]
     simp only
     cases (sz x u).2 && decide ((sz x u).1 = b.n) with
     | false => exact ⟨s2, rfl, a2.trans f2, a3.trans f3⟩
     | true =>
      simp only [cond_true, q1, q2, q3, Option.bind_some, b1, qab]
      rw [← hks]
      simp only [i1, l1, qab, Option.bind_some, d1, s59_1, Bool.true_and]
      exact ⟨s4, rfl, d2.trans (b2.trans (a2.trans f2)), d3.trans (b3.trans (a3.trans f3))⟩
    ·simp only [k17, decide_false, cond_false, if_false]
     exact ⟨s1, rfl, f2, f3⟩
end Go.AI.Tryz
namespace Go.AI.Tryz
theorem Tm.ia0 {l : List Tm} (h : 0 < l.length) : iaV 5 (.p (.sl l.length (Tm.cellsL l))) (i64 0) = some (Tm.cellsL l, 0 * 5) := Tm.ia_kid (j := 0) h
theorem Tm.ia1 {l : List Tm} (h : 1 < l.length) : iaV 5 (.p (.sl l.length (Tm.cellsL l))) (i64 1) = some (Tm.cellsL l, 1 * 5) := Tm.ia_kid (j := 1) h
abbrev is2 (r : Int × Bool) (n : Int) : Bool := r.2 && decide (r.1 = n)
def qch (sz : Sc → Tm → Int × Bool) (x : Sc) (t : Tm) : Int × Bool :=
 match t.ks with
 | [u] => (t.n, (sz x u).2 && qby t.n)
 | u :: w :: _ =>
  if t.n = 1 ∨ t.n = 2 ∨ t.n = 3 then (t.m, qby t.m && (is2 (sz x u) t.m && is2 (sz x w) t.m))
  else if t.n = 4 ∨ t.n = 5 then (2, qby t.m && (is2 (sz x u) t.m && is2 (sz x w) t.m)) else (0, false)
 | [] => (0, false)
theorem qp1 {sz : Sc → Tm → Int × Bool} {x : Sc} {t u : Tm} (hks : t.ks = [u]) (h6 : t.k = 6) (h : SzC x u (sz x u)) : QC 196 (fun l => [x.v l, t.v]) (fun _ => .tuple [i64 (qch sz x t).1, bl (qch sz x t).2]) := by
 refine QC.of (cf := cf196) (np := 2) (args' := fun l => [x.v l, t.v]) (r := fun _ => .tuple [i64 (qch sz x t).1, bl (qch sz x t).2]) (by kernel_rfl) (by kernel_rfl) (fun _ => rfl) (fun _ => by simp only [List.all_cons, qan]; rfl) (fun _ => by simp only [List.map_cons, qao]; rfl) (fun _ => rfl) (fun _ => rfl)
  ((h.and (qfQ t.n)).mono fun n ⟨h, hz⟩ E s l hm => ?_)
 obtain ⟨s', h', hh, hn⟩ := h E s l hm
 refine ⟨.tuple [i64 (qch sz x t).1, bl (qch sz x t).2], s', (s196_eq _ _ _ _ _).trans ?_, rfl, hh, hn⟩
 have hz' := hz E s'
 have hr : qch sz x t = (t.n, (sz x u).2 && qby t.n) := by unfold qch; rw [hks]
 have l0 : ∀ s, ldH (qae CP n E) s (.elem (Tm.cellsL t.ks) (0 * 5)) (some 5) = some u.v := fun s => Tm.ld_kid _ _ (by rw [hks]; rfl)
 have i0 := Tm.ia0 (l := t.ks) (by simp [hks])
 unfold s196
 rw [hr]
 simp only [Sc.v] at h'
 simp only [Tm.v_eq t, Sc.v, qaL, qaN, qbo, qbt, qbq, qcq, h6, qag, qaq, Option.map_some, Option.bind_some, decide_true, qaa, cond_true, i0, l0, qab, h', qah, qar, qas, qav, s196_0]
 cases (sz x u).2
 ·rfl
 ·simp only [cond_true, hz', qab, Bool.true_and]
theorem qp2 {sz : Sc → Tm → Int × Bool} {x : Sc} {t u w : Tm} (hks : t.ks = [u, w]) (h5 : t.k = 5) (h : SzC x u (sz x u)) (g : SzC x w (sz x w)) : QC 196 (fun l => [x.v l, t.v]) (fun _ => .tuple [i64 (qch sz x t).1, bl (qch sz x t).2]) := by
 refine QC.of (cf := cf196) (np := 2) (args' := fun l => [x.v l, t.v]) (r := fun _ => .tuple [i64 (qch sz x t).1, bl (qch sz x t).2]) (by kernel_rfl) (by kernel_rfl) (fun _ => rfl) (fun _ => by simp only [List.all_cons, qan]; rfl) (fun _ => by simp only [List.map_cons, qao]; rfl) (fun _ => rfl) (fun _ => rfl)
  (((qg5 t.m h).and ((qg5 t.m g).and (qfQ t.m))).mono fun n ⟨h, g, hz⟩ E s l hm => ?_)
 obtain ⟨s1, a1, a2, a3⟩ := h E s l hm
 obtain ⟨s2, b1, b2, b3⟩ := g E s1 l (by rw [qaM a2]; exact hm)
 have hz' := hz E s
 have l0 : ∀ s, ldH (qae CP n E) s (.elem (Tm.cellsL t.ks) (0 * 5)) (some 5) = some u.v := fun s => Tm.ld_kid _ _ (by rw [hks]; rfl)
 have l1 : ∀ s, ldH (qae CP n E) s (.elem (Tm.cellsL t.ks) (1 * 5)) (some 5) = some w.v := fun s => Tm.ld_kid _ _ (by rw [hks]; rfl)
 have i0 := Tm.ia0 (l := t.ks) (by simp [hks])
 have i1 := Tm.ia1 (l := t.ks) (by simp [hks])
 suffices ∃ s3, s196 (qae CP n E) n (x.v l) t.v s = some (.tuple [i64 (qch sz x t).1, bl (qch sz x t).2], s3) ∧ s3.heap = s.heap ∧ s3.next = s.next by
  obtain ⟨s3, e, e1, e2⟩ := this
  exact ⟨_, s3, (s196_eq _ _ _ _ _).trans e, rfl, e1, e2⟩
 let ok : Bool := qby t.m && (is2 (sz x u) t.m && is2 (sz x w) t.m)
 have hr : qch sz x t = if t.n = 1 ∨ t.n = 2 ∨ t.n = 3 then (t.m, ok) else if t.n = 4 ∨ t.n = 5 then (2, ok) else (0, false) := by unfold qch; rw [hks]
 have hfin : ∀ (c : Bool) (s3 : ASt), c = ok → s196_4 (qae CP n E) n [u8 t.k, i64 t.n, i64 t.m, i64 t.i, .p (.sl t.ks.length (Tm.cellsL t.ks))] (bl c) s3 = some (.tuple [i64 (qch sz x t).1, bl (qch sz x t).2], s3) := by
  intro c s3 hc
  rw [hr, ← hc]
  unfold s196_4 s196_3 s196_2 s196_1
  simp only [qcq, qcC, qav, qag, qaq, Option.map_some, Option.bind_some, qaa]
  by_cases e1 : t.n = 1
  ·simp only [e1, decide_true, cond_true, true_or, if_true]
  ·by_cases e2 : t.n = 2
   ·simp only [e2, show ¬ ((2 : Int) = 1) by decide, decide_true, decide_false, cond_true, cond_false, true_or, or_true, if_true]
   ·by_cases e3 : t.n = 3
    ·simp only [e3, show ¬ ((3 : Int) = 1) by decide, show ¬ ((3 : Int) = 2) by decide, decide_true, decide_false, cond_true, cond_false, or_true, if_true]
    ·by_cases e4 : t.n = 4
     ·simp only [e4, show ¬ ((4 : Int) = 1) by decide, show ¬ ((4 : Int) = 2) by decide, show ¬ ((4 : Int) = 3) by decide, decide_true, decide_false, cond_true, cond_false, true_or, or_self, if_true, if_false]
     ·by_cases e5 : t.n = 5
      ·simp only [e5, show ¬ ((5 : Int) = 1) by decide, show ¬ ((5 : Int) = 2) by decide, show ¬ ((5 : Int) = 3) by decide, show ¬ ((5 : Int) = 4) by decide, decide_true, decide_false, cond_true, cond_false, or_true, or_self, if_true, if_false]
      ·simp only [e1, e2, e3, e4, e5, decide_false, cond_false, or_self, if_false]
 have h65 : decide (t.k = 6) = false := by rw [h5]; rfl
 unfold s196
 simp only [Sc.v] at a1 b1
 simp only [Tm.v_eq t, Sc.v, qaL, qaN, qbo, qbt, qbq, qcC, h65, qag, qaq, Option.map_some, Option.bind_some, qaa, cond_false, i0, l0, i1, l1, qab, qav, hz']
 have f0 : ok = false → ∀ s3, s196_4 (qae CP n E) n [u8 t.k, i64 t.n, i64 t.m, i64 t.i, .p (.sl t.ks.length (Tm.cellsL t.ks))] (bl false) s3 = some (.tuple [i64 (qch sz x t).1, bl (qch sz x t).2], s3) := fun h s3 => hfin false s3 h.symm
 cases q1 : qby t.m with
 | false =>
  have hk0 : ok = false := by show (qby t.m && _) = false; rw [q1]; rfl
  rw [cond_false, f0 hk0 s]
  exact ⟨s, rfl, rfl, rfl⟩
 | true =>
  rw [cond_true, a1, qab, qaa]
  cases q2 : ((sz x u).2 && decide ((sz x u).1 = t.m)) with
  | false =>
   have hk0 : ok = false := by show (qby t.m && (((sz x u).2 && decide ((sz x u).1 = t.m)) && _)) = false; rw [q1, q2]; rfl
   rw [cond_false, f0 hk0 s1]
   exact ⟨s1, rfl, a2, a3⟩
  | true =>
   have hk0 : ((sz x w).2 && decide ((sz x w).1 = t.m)) = ok := by show _ = (qby t.m && (((sz x u).2 && decide ((sz x u).1 = t.m)) && ((sz x w).2 && decide ((sz x w).1 = t.m)))); rw [q1, q2]; rfl
   rw [cond_true, b1, qab, hfin _ s2 hk0]
   exact ⟨s2, rfl, b2.trans a2, b3.trans a3⟩
end Go.AI.Tryz
namespace Go.AI.Tryz
def qbr (sz : Sc → Tm → Int × Bool) (x : Sc) (t : Tm) : Int × Bool :=
 match t.ks with
 | [u] =>
  if t.k = 10 then ((sz (x.with ⟨⟨[], ⟨true, t.n⟩⟩, false⟩) u).1, (sz (x.with ⟨⟨[], ⟨true, t.n⟩⟩, false⟩) u).2 && (qby t.n && qbw t.m t.n))
  else if t.k = 18 then ((sz x u).1, (sz x u).2 && (((x.get t.i).any fun e => e.ty.res.cell) && (decide (x.top < t.i) && qbw t.n ((x.get t.i).getD .none).ty.res.n)))
  else (0, false)
 | [u, w] =>
  if t.k = 7 then ((sz x w).1, (sz x w).2 && is2 (sz x u) 1)
  else if t.k = 9 then (1, (sz x u).2 && is2 (sz x w) 1)
  else if t.k = 11 then ((sz { x with size := x.size + 1 } u).1, (sz { x with size := x.size + 1 } u).2 && is2 (sz x w) (sz { x with size := x.size + 1 } u).1)
  else if t.k = 13 then ((sz x u).1, (sz x u).2 && is2 (sz x w) (sz x u).1)
  else (0, false)
 | [c, u, w] => if t.k = 8 then ((sz x u).1, ((sz x u).2 && is2 (sz x w) (sz x u).1) && (sz x c).2) else (0, false)
 | _ => (0, false)
abbrev PtC (x : Sc) (t : Tm) (r : Int × Bool) : Prop := QC 197 (fun l => [x.v l, t.v]) (fun _ => .tuple [i64 r.1, bl r.2])
theorem PtC.of {x : Sc} {t : Tm} {r : Int × Bool} (h : Ev fun n => ∀ E s l, qcn E s l = some qbc → ∃ s', s197 (qae CP n E) n (x.v l) t.v s = some (.tuple [i64 r.1, bl r.2], s') ∧ s'.heap = s.heap ∧ s'.next = s.next) : PtC x t r := by
 refine QC.of (cf := cf197) (np := 2) (args' := fun l => [x.v l, t.v]) (r := fun _ => .tuple [i64 r.1, bl r.2]) (by kernel_rfl) (by kernel_rfl) (fun _ => rfl) (fun _ => by simp only [List.all_cons, qan]; rfl) (fun _ => by simp only [List.map_cons, qao]; rfl) (fun _ => rfl) (fun _ => rfl) (h.mono fun n h E s l hm => ?_)
 obtain ⟨s', e, e1, e2⟩ := h E s l hm
 exact ⟨_, s', (s197_eq _ _ _ _ _).trans e, rfl, e1, e2⟩
theorem qcT {n : Nat} {E : qaJ} {l : List Tm} {u : Tm} (h : l[0]? = some u) : iaV 5 (.p (.sl l.length (Tm.cellsL l))) (i64 0) = some (Tm.cellsL l, 0 * 5) ∧ ∀ s, ldH (qae CP n E) s (.elem (Tm.cellsL l) (0 * 5)) (some 5) = some u.v :=
 ⟨Tm.ia_kid (j := 0) (List.getElem?_eq_some_iff.1 h).1, fun s => Tm.ld_kid _ _ h⟩
theorem qfR {n : Nat} {E : qaJ} {l : List Tm} {u : Tm} (h : l[1]? = some u) : iaV 5 (.p (.sl l.length (Tm.cellsL l))) (i64 1) = some (Tm.cellsL l, 1 * 5) ∧ ∀ s, ldH (qae CP n E) s (.elem (Tm.cellsL l) (1 * 5)) (some 5) = some u.v :=
 ⟨Tm.ia_kid (j := 1) (List.getElem?_eq_some_iff.1 h).1, fun s => Tm.ld_kid _ _ h⟩
theorem qsw {n : Nat} {E : qaJ} {l : List Tm} {u : Tm} (h : l[2]? = some u) : iaV 5 (.p (.sl l.length (Tm.cellsL l))) (i64 2) = some (Tm.cellsL l, 2 * 5) ∧ ∀ s, ldH (qae CP n E) s (.elem (Tm.cellsL l) (2 * 5)) (some 5) = some u.v :=
 ⟨Tm.ia_kid (j := 2) (List.getElem?_eq_some_iff.1 h).1, fun s => Tm.ld_kid _ _ h⟩
section
variable {sz : Sc → Tm → Int × Bool} {x : Sc} {t u w c : Tm}
theorem qtk (hks : t.ks = [u, w]) (hk : t.k = 7) (h : SzC x u (sz x u)) (g : SzC x w (sz x w)) : PtC x t (qbr sz x t) := by
 have hr : qbr sz x t = ((sz x w).1, (sz x w).2 && is2 (sz x u) 1) := by unfold qbr; rw [hks]; simp only [hk, if_true]
 rw [hr]
 refine PtC.of ((g.and (qg5 1 h)).mono fun n ⟨g, h⟩ E s l hm => ?_)
 obtain ⟨s1, a1, a2, a3⟩ := g E s l hm
 obtain ⟨s2, b1, b2, b3⟩ := h E s1 l (by rw [qaM a2]; exact hm)
 obtain ⟨i0, l0⟩ := qcT (n := n) (E := E) (l := t.ks) (u := u) (by rw [hks]; rfl)
 obtain ⟨i1, l1⟩ := qfR (n := n) (E := E) (l := t.ks) (u := w) (by rw [hks]; rfl)
 simp only [Sc.v] at a1 b1
 unfold s197 s197_0
 simp only [Tm.v_eq t, Sc.v, hk, qaL, qaN, qbo, qbt, qbq, qag, qaq, Option.map_some, Option.bind_some, decide_true, qaa, cond_true, i1, l1, i0, l0, qab, a1, qah, qar, qas, qav]
 cases (sz x w).2
 ·exact ⟨s1, rfl, a2, a3⟩
 ·simp only [cond_true, b1, qab, Bool.true_and]
  exact ⟨s2, rfl, b2.trans a2, b3.trans a3⟩
theorem qtl (hks : t.ks = [u, w]) (hk : t.k = 9) (h : SzC x u (sz x u)) (g : SzC x w (sz x w)) : PtC x t (qbr sz x t) := by
 have hr : qbr sz x t = (1, (sz x u).2 && is2 (sz x w) 1) := by unfold qbr; rw [hks]; simp [hk]
 rw [hr]
 refine PtC.of ((h.and (qg5 1 g)).mono fun n ⟨g, h⟩ E s l hm => ?_)
 obtain ⟨s1, a1, a2, a3⟩ := g E s l hm
 obtain ⟨s2, b1, b2, b3⟩ := h E s1 l (by rw [qaM a2]; exact hm)
 obtain ⟨i0, l0⟩ := qcT (n := n) (E := E) (l := t.ks) (u := u) (by rw [hks]; rfl)
 obtain ⟨i1, l1⟩ := qfR (n := n) (E := E) (l := t.ks) (u := w) (by rw [hks]; rfl)
 simp only [Sc.v] at a1 b1
 unfold s197 s197_2
 simp only [Tm.v_eq t, Sc.v, hk, qaL, qaN, qbo, qbt, qbq, qag, qaq, Option.map_some, Option.bind_some, Int.reduceEq, decide_true, decide_false, qaa, cond_true, cond_false, i1, l1, i0, l0, qab, a1, qah, qar, qas, qav]
 cases (sz x u).2
 ·exact ⟨s1, rfl, a2, a3⟩
 ·simp only [cond_true, b1, qab, Bool.true_and]
  exact ⟨s2, rfl, b2.trans a2, b3.trans a3⟩
theorem qtm (hks : t.ks = [c, u, w]) (hk : t.k = 8) (h : SzC x u (sz x u)) (g : SzC x w (sz x w)) (gc : SzC x c (sz x c)) : PtC x t (qbr sz x t) := by
 have hr : qbr sz x t = ((sz x u).1, ((sz x u).2 && is2 (sz x w) (sz x u).1) && (sz x c).2) := by unfold qbr; rw [hks]; simp [hk]
 rw [hr]
 refine PtC.of (((qkP h g).and gc).mono fun n ⟨g, h⟩ E s l hm => ?_)
 obtain ⟨s1, a1, a2, a3⟩ := g E s l hm
 obtain ⟨s2, b1, b2, b3⟩ := h E s1 l (by rw [qaM a2]; exact hm)
 obtain ⟨i0, l0⟩ := qcT (n := n) (E := E) (l := t.ks) (u := c) (by rw [hks]; rfl)
 obtain ⟨i1, l1⟩ := qfR (n := n) (E := E) (l := t.ks) (u := u) (by rw [hks]; rfl)
 obtain ⟨i2, l2⟩ := qsw (n := n) (E := E) (l := t.ks) (u := w) (by rw [hks]; rfl)
 simp only [Sc.v] at a1 b1
 unfold s197 s197_1
 simp only [Tm.v_eq t, Sc.v, hk, qaL, qaN, qbo, qbt, qbq, qag, qaq, Option.map_some, Option.bind_some, Int.reduceEq, decide_true, decide_false, qaa, cond_true, cond_false, i1, l1, i0, l0, i2, l2, qab, a1, b1, qah, qar, qas, qav]
 refine ⟨s2, ?_, b2.trans a2, b3.trans a3⟩
 simp only [is2]
 cases decide ((sz x w).1 = (sz x u).1) <;> cases (sz x w).2 <;> cases (sz x u).2 <;> rfl
theorem qrG (hks : t.ks = [u, w]) (hk : t.k = 13) (h : SzC x u (sz x u)) (g : SzC x w (sz x w)) : PtC x t (qbr sz x t) := by
 have hr : qbr sz x t = ((sz x u).1, (sz x u).2 && is2 (sz x w) (sz x u).1) := by unfold qbr; rw [hks]; simp [hk]
 rw [hr]
 refine PtC.of ((qkP h g).mono fun n g E s l hm => ?_)
 obtain ⟨s1, a1, a2, a3⟩ := g E s l hm
 obtain ⟨i0, l0⟩ := qcT (n := n) (E := E) (l := t.ks) (u := u) (by rw [hks]; rfl)
 obtain ⟨i1, l1⟩ := qfR (n := n) (E := E) (l := t.ks) (u := w) (by rw [hks]; rfl)
 simp only [Sc.v] at a1
 unfold s197
 simp only [Tm.v_eq t, Sc.v, hk, qaL, qaN, qbo, qbt, qbq, qag, qaq, Option.map_some, Option.bind_some, Int.reduceEq, decide_true, decide_false, qaa, cond_true, cond_false, i1, l1, i0, l0, qab, a1, qah, qar, qas, qav]
 exact ⟨s1, rfl, a2, a3⟩
theorem qrH (hks : t.ks = [u, w]) (hk : t.k = 11) (hb : 0 ≤ x.size) (hb2 : x.size ≤ 1000000) (h : SzC { x with size := x.size + 1 } u (sz { x with size := x.size + 1 } u)) (g : SzC x w (sz x w)) : PtC x t (qbr sz x t) := by
 have hr : qbr sz x t = ((sz { x with size := x.size + 1 } u).1, (sz { x with size := x.size + 1 } u).2 && is2 (sz x w) (sz { x with size := x.size + 1 } u).1) := by unfold qbr; rw [hks]; simp [hk]
 rw [hr]
 refine PtC.of ((qkP h g).mono fun n g E s l hm => ?_)
 obtain ⟨s1, a1, a2, a3⟩ := g E s l hm
 obtain ⟨i0, l0⟩ := qcT (n := n) (E := E) (l := t.ks) (u := u) (by rw [hks]; rfl)
 obtain ⟨i1, l1⟩ := qfR (n := n) (E := E) (l := t.ks) (u := w) (by rw [hks]; rfl)
 simp only [Sc.v] at a1
 have hw : qa8 .i64 (x.size + 1) = x.size + 1 := qbT (by omega) (by omega)
 unfold s197
 simp only [Tm.v_eq t, Sc.v, hk, qaL, qaN, qbo, qbt, qbq, qag, qaq, qaH, hw, qgu, qpV, qcB, qbh, Option.map_some, Option.bind_some, Int.reduceEq, decide_true, decide_false, qaa, cond_true, cond_false, i1, l1, i0, l0, qab, a1, qah, qar, qas, qav]
 exact ⟨s1, rfl, a2, a3⟩
theorem qrI (hks : t.ks = [u]) (hk : t.k = 10) (hl : x.ids.length ≤ 1000000) (h : SzC (x.with ⟨⟨[], ⟨true, t.n⟩⟩, false⟩) u (sz (x.with ⟨⟨[], ⟨true, t.n⟩⟩, false⟩) u)) : PtC x t (qbr sz x t) := by
 have hr : qbr sz x t = ((sz (x.with ⟨⟨[], ⟨true, t.n⟩⟩, false⟩) u).1, (sz (x.with ⟨⟨[], ⟨true, t.n⟩⟩, false⟩) u).2 && (qby t.n && qbw t.m t.n)) := by unfold qbr; rw [hks]; simp [hk]
 rw [hr]
 refine PtC.of ((h.and ((qqL x ⟨⟨[], ⟨true, t.n⟩⟩, false⟩ (.agg [.sl 0 [] .full, bl true, i64 t.n, bl false]) rfl rfl hl).and ((qfQ t.n).and (qeH t.m t.n)))).mono fun n ⟨h, hw, hz, hb⟩ E s l hm => ?_)
 obtain ⟨s1, a1, a2, a3⟩ := hw E s l hm
 obtain ⟨s2, b1, b2, b3⟩ := h E s1 l (by rw [qaM a2]; exact hm)
 obtain ⟨i0, l0⟩ := qcT (n := n) (E := E) (l := t.ks) (u := u) (by rw [hks]; rfl)
 have q1 : bd [bl false, i64 0] [(0, none, .c (bl true)), (1, none, .c (i64 t.n))] = some (.agg [bl true, i64 t.n]) := rfl
 have q2 : bd [.sl 0 [] .full, bl false, i64 0] [(1, some 2, .c (.agg [bl true, i64 t.n]))] = some (.agg [.sl 0 [] .full, bl true, i64 t.n]) := rfl
 have q3 : bd [.sl 0 [] .full, bl false, i64 0, bl false] [(0, some 3, .c (.agg [.sl 0 [] .full, bl true, i64 t.n]))] = some (.agg [.sl 0 [] .full, bl true, i64 t.n, bl false]) := rfl
 dsimp only at a1 b1
 generalize sz (x.with ⟨⟨[], ⟨true, t.n⟩⟩, false⟩) u = r at b1 ⊢
 generalize hy : (x.with ⟨⟨[], ⟨true, t.n⟩⟩, false⟩).v l = y at a1 b1
 simp only [Sc.v] at a1
 unfold s197 s197_3
 simp only [Tm.v_eq t, Sc.v, hk, qaL, qaN, qbo, qbt, qcq, qcC, qbq, qag, qaq, Option.map_some, Option.bind_some, Int.reduceEq, decide_true, decide_false, qaa, cond_true, cond_false, i0, l0, q1, q2, q3, qab, a1, b1, qah, qar, qas, qav]
 refine ⟨s2, ?_, b2.trans a2, b3.trans a3⟩
 cases r.2
 ·rfl
 ·simp only [cond_true, hz, qab, qaa, Bool.true_and]
  cases qby t.n
  ·rfl
  ·simp only [cond_true, hb, qab, Bool.true_and]
theorem qrJ (hks : t.ks = [u]) (hk : t.k = 18) (hl : x.ids.length ≤ 1000000) (h : SzC x u (sz x u)) : PtC x t (qbr sz x t) := by
 have hr : qbr sz x t = ((sz x u).1, (sz x u).2 && (((x.get t.i).any fun e => e.ty.res.cell) && (decide (x.top < t.i) && qbw t.n ((x.get t.i).getD .none).ty.res.n))) := by unfold qbr; rw [hks]; simp [hk]
 rw [hr]
 refine PtC.of ((h.and ((qlT x t.i hl).and (qeH t.n ((x.get t.i).getD .none).ty.res.n))).mono fun n ⟨h, hc, hb⟩ E s l hm => ?_)
 obtain ⟨s1, a1, a2, a3⟩ := h E s l hm
 obtain ⟨s2, b1, b2, b3⟩ := hc E s1 l (by rw [qaM a2]; exact hm)
 obtain ⟨i0, l0⟩ := qcT (n := n) (E := E) (l := t.ks) (u := u) (by rw [hks]; rfl)
 simp only [Sc.v] at a1 b1
 unfold s197 s197_4
 simp only [Tm.v_eq t, Sc.v, hk, qaL, qaN, qbo, qkI, qbt, qcq, qdM, qbq, qag, qaq, qbe, Option.map_some, Option.bind_some, Int.reduceEq, decide_true, decide_false, qaa, cond_true, cond_false, i0, l0, qab, a1, b1, qah, qar, qas, qav]
 refine ⟨s2, ?_, b2.trans a2, b3.trans a3⟩
 generalize hcell : (x.get t.i).any _ = bc
 cases (sz x u).2
 ·rfl
 ·cases bc
  ·rfl
  ·cases decide (x.top < t.i)
   ·rfl
   ·simp only [cond_true, hb, qab, Bool.true_and]
theorem qmM (hk : t.k ≠ 7 ∧ t.k ≠ 8 ∧ t.k ≠ 9 ∧ t.k ≠ 10 ∧ t.k ≠ 11 ∧ t.k ≠ 13 ∧ t.k ≠ 18) : PtC x t (qbr sz x t) := by
 obtain ⟨k7, k8, k9, k10, k11, k13, k18⟩ := hk
 have hr : qbr sz x t = (0, false) := by unfold qbr; split <;> simp [k7, k8, k9, k10, k11, k13, k18]
 rw [hr]
 refine PtC.of (Ev.of fun n E s l hm => ⟨s, ?_, rfl, rfl⟩)
 unfold s197
 simp only [Tm.v_eq t, Sc.v, qaL, qaN, qbt, qag, qaq, Option.map_some, Option.bind_some, k7, k8, k9, k10, k11, k13, k18, decide_false, qaa, cond_false]
end
end Go.AI.Tryz
namespace Go.AI.Tryz
def qa3 (sz : Sc → Tm → Int × Bool) (x : Sc) (t : Tm) : Int × Bool :=
 if qbA t then
  if t.k = 1 then (t.m, qby t.m && qbw t.n t.m)
  else if t.k = 2 then (((x.get t.i).getD .none).ty.res.n, (x.get t.i).isSome && (!((x.get t.i).getD .none).ty.res.cell && (!((x.get t.i).getD .none).arg && qbB (qdA sz x) t.ks ((x.get t.i).getD .none).ty.ps)))
  else if t.k = 3 then (((x.get t.i).getD .none).ty.res.n, (x.get t.i).any fun e => e.ty.res.cell)
  else if t.k = 4 then (1, ((x.get t.i).any fun e => e.ty.res.cell) && (match t.ks with | u :: _ => is2 (sz x u) ((x.get t.i).getD .none).ty.res.n | _ => false))
  else if t.k = 15 then (((x.get t.i).getD .none).ty.res.n, (x.get t.i).isSome && ((x.get t.i).getD .none).arg)
  else if t.k = 12 then (1, qbw t.n x.size)
  else if t.k = 14 then (1, true)
  else if t.k = 5 ∨ t.k = 6 then qch sz x t
  else qbr sz x t
 else (0, false)
def _root_.Go.AI.Sc.B (x : Sc) (b : Nat) : Prop := x.ids.length + b ≤ 1000000 ∧ 0 ≤ x.size ∧ x.size + b ≤ 1000000
theorem qa4 {t u : Tm} (h : u ∈ t.ks) : u.size < t.size := by
 have := Tm.sizeL_mem h
 rw [Tm.size_ks t]; omega
theorem SzC.of {x : Sc} {t : Tm} {r : Int × Bool} (h : Ev fun n => ∀ E s l, qcn E s l = some qbc → ∃ s', s163 (qae CP n E) n (x.v l) t.v s = some (.tuple [i64 r.1, bl r.2], s') ∧ s'.heap = s.heap ∧ s'.next = s.next) : SzC x t r := by
 refine QC.of (cf := cf163) (np := 2) (args' := fun l => [x.v l, t.v]) (r := fun _ => .tuple [i64 r.1, bl r.2]) (by kernel_rfl) (by kernel_rfl) (fun _ => rfl) (fun _ => by simp only [List.all_cons, qan]; rfl) (fun _ => by simp only [List.map_cons, qao]; rfl) (fun _ => rfl) (fun _ => rfl) (h.mono fun n h E s l hm => ?_)
 obtain ⟨s', e, e1, e2⟩ := h E s l hm
 exact ⟨_, s', (s163_eq _ _ _ _ _).trans e, rfl, e1, e2⟩
section
variable {sz : Sc → Tm → Int × Bool} {x : Sc} {t u w c : Tm}
theorem qrK (hf : qbA t = false) : SzC x t (qa3 sz x t) := by
 have hr : qa3 sz x t = (0, false) := by unfold qa3; simp only [hf, Bool.false_eq_true, if_false]
 rw [hr]
 refine SzC.of ((qce x t).mono fun n h E s l hm => ?_)
 obtain ⟨s1, a1, a2, a3⟩ := h E s l hm
 simp only [Sc.v, hf] at a1
 refine ⟨s1, ?_, a2, a3⟩
 unfold s163
 simp only [Tm.v_eq t] at a1 ⊢
 simp only [Sc.v, qaL, qaN, qbo, qbI, Option.bind_some, a1, qab, qau, qaa, Bool.not_false, cond_true]
theorem qu5 (hf : qbA t = true) (hk : t.k = 1) : SzC x t (qa3 sz x t) := by
 have hr : qa3 sz x t = (t.m, qby t.m && qbw t.n t.m) := by unfold qa3; simp only [hf, if_true, hk]
 rw [hr]
 refine SzC.of (((qce x t).and ((qfQ t.m).and (qeH t.n t.m))).mono fun n ⟨h, hz, hb⟩ E s l hm => ?_)
 obtain ⟨s1, a1, a2, a3⟩ := h E s l hm
 simp only [Sc.v, hf] at a1
 refine ⟨s1, ?_, a2, a3⟩
 unfold s163 s163_0
 simp only [Tm.v_eq t, hk] at a1 ⊢
 simp only [Sc.v, qaL, qaN, qbo, qbI, qbt, qcq, qcC, Option.bind_some, a1, qab, qau, qaa, Bool.not_true, cond_false, qag, qaq, Option.map_some, Int.reduceEq, decide_true, decide_false, cond_true, qav, hz]
 cases qby t.m
 ·rfl
 ·simp only [cond_true, hb, qab, Bool.true_and]
theorem qtn (hf : qbA t = true) (hk : t.k = 14) : SzC x t (qa3 sz x t) := by
 have hr : qa3 sz x t = (1, true) := by unfold qa3; simp [hf, hk]
 rw [hr]
 refine SzC.of ((qce x t).mono fun n h E s l hm => ?_)
 obtain ⟨s1, a1, a2, a3⟩ := h E s l hm
 simp only [Sc.v, hf] at a1
 refine ⟨s1, ?_, a2, a3⟩
 unfold s163
 simp only [Tm.v_eq t, hk] at a1 ⊢
 simp only [Sc.v, qaL, qaN, qbo, qbI, qbt, qcq, qcC, Option.bind_some, a1, qab, qau, qaa, Bool.not_true, cond_false, qag, qaq, Option.map_some, Int.reduceEq, decide_true, decide_false, cond_true, qav]
theorem qto (hf : qbA t = true) (hk : t.k = 12) : SzC x t (qa3 sz x t) := by
 have hr : qa3 sz x t = (1, qbw t.n x.size) := by unfold qa3; simp [hf, hk]
 rw [hr]
 refine SzC.of (((qce x t).and (qeH t.n x.size)).mono fun n ⟨h, hb⟩ E s l hm => ?_)
 obtain ⟨s1, a1, a2, a3⟩ := h E s l hm
 simp only [Sc.v, hf] at a1
 refine ⟨s1, ?_, a2, a3⟩
 unfold s163
 simp only [Tm.v_eq t, hk] at a1 ⊢
 simp only [Sc.v, qaL, qaN, qbo, qbI, qgu, qbt, qcq, qcC, Option.bind_some, a1, qab, qau, qaa, Bool.not_true, cond_false, qag, qaq, Option.map_some, Int.reduceEq, decide_true, decide_false, cond_true, qav, hb]
theorem qu6 (hf : qbA t = true) (hk : t.k = 3) (hl : x.ids.length ≤ 1000000) : SzC x t (qa3 sz x t) := by
 have hr : qa3 sz x t = (((x.get t.i).getD .none).ty.res.n, (x.get t.i).any fun e => e.ty.res.cell) := by unfold qa3; simp [hf, hk]
 rw [hr]
 refine SzC.of (((qce x t).and (qlT x t.i hl)).mono fun n ⟨h, hc⟩ E s l hm => ?_)
 obtain ⟨s1, a1, a2, a3⟩ := h E s l hm
 obtain ⟨s2, b1, b2, b3⟩ := hc E s1 l (by rw [qaM a2]; exact hm)
 simp only [Sc.v, hf] at a1 b1
 refine ⟨s2, ?_, b2.trans a2, b3.trans a3⟩
 unfold s163
 simp only [Tm.v_eq t, hk] at a1 ⊢
 simp only [Sc.v, qaL, qaN, qbo, qbI, qbt, qcq, qcC, qdM, Option.bind_some, a1, b1, qab, qau, qaa, Bool.not_true, cond_false, qag, qaq, Option.map_some, Int.reduceEq, decide_true, decide_false, cond_true, qav, qah, qar, qas]
theorem qu7 (hf : qbA t = true) (hk : t.k = 4) (hks : t.ks = [u]) (hl : x.ids.length ≤ 1000000) (hu : SzC x u (sz x u)) : SzC x t (qa3 sz x t) := by
 have hr : qa3 sz x t = (1, ((x.get t.i).any fun e => e.ty.res.cell) && is2 (sz x u) ((x.get t.i).getD .none).ty.res.n) := by unfold qa3; simp [hf, hk, hks]
 rw [hr]
 refine SzC.of (((qce x t).and ((qlT x t.i hl).and (qg5 ((x.get t.i).getD .none).ty.res.n hu))).mono fun n ⟨h, hc, hi⟩ E s l hm => ?_)
 obtain ⟨s1, a1, a2, a3⟩ := h E s l hm
 obtain ⟨s2, b1, b2, b3⟩ := hc E s1 l (by rw [qaM a2]; exact hm)
 obtain ⟨s3, c1, c2, c3⟩ := hi E s2 l (by rw [qaM b2, qaM a2]; exact hm)
 obtain ⟨i0, l0⟩ := qcT (n := n) (E := E) (l := t.ks) (u := u) (by rw [hks]; rfl)
 simp only [Sc.v, hf] at a1 b1 c1
 unfold s163 s163_2
 simp only [Tm.v_eq t, hk] at a1 ⊢
 simp only [Sc.v, qaL, qaN, qbo, qbI, qbt, qcq, qcC, qdM, qbq, Option.bind_some, a1, b1, qab, qau, qaa, Bool.not_true, cond_false, qag, qaq, Option.map_some, Int.reduceEq, decide_true, decide_false, cond_true, qav, qah, qar, qas, i0, l0, c1]
 cases (x.get t.i).any fun e => e.ty.res.cell
 ·exact ⟨s2, rfl, b2.trans a2, b3.trans a3⟩
 ·exact ⟨s3, rfl, c2.trans (b2.trans a2), c3.trans (b3.trans a3)⟩
theorem Se.cells4 (y : Se) : AVal.cells (some 4) y.v = some [.p (.sl y.ty.ps.length (qaU Bs.cells y.ty.ps)), bl y.ty.res.cell, i64 y.ty.res.n, bl y.arg] := rfl
theorem qtp (hf : qbA t = true) (hk : t.k = 15) (hl : x.ids.length ≤ 1000000) : SzC x t (qa3 sz x t) := by
 have hr : qa3 sz x t = (((x.get t.i).getD .none).ty.res.n, (x.get t.i).isSome && ((x.get t.i).getD .none).arg) := by unfold qa3; simp [hf, hk]
 rw [hr]
 refine SzC.of (((qce x t).and (qu3 x t.i hl)).mono fun n ⟨h, hc⟩ E s l hm => ?_)
 obtain ⟨s1, a1, a2, a3⟩ := h E s l hm
 obtain ⟨s2, b1, b2, b3⟩ := hc E s1 l (by rw [qaM a2]; exact hm)
 simp only [Sc.v, hf] at a1 b1
 refine ⟨s2, ?_, b2.trans a2, b3.trans a3⟩
 generalize hy : (x.get t.i).getD .none = y at b1
 generalize hq : (x.get t.i).isSome = q at b1
 unfold s163 s163_3
 simp only [Tm.v_eq t, hk] at a1 ⊢
 simp only [Sc.v, qaL, qaN, qbo, qbI, qgu, qim, qbt, qcq, qcC, qdM, Option.bind_some, a1, b1, qab, qau, qaa, Bool.not_true, cond_false, qag, qaq, Option.map_some, Int.reduceEq, decide_true, decide_false, cond_true, qav, qah, qar, qas, Se.cells4, qcB]
 cases q <;> rfl
theorem qu8 (hf : qbA t = true) (hk : t.k = 2) (hl : x.ids.length ≤ 1000000) (hlen : t.ks.length ≤ maxLen) (hu : ∀ p ∈ t.ks.zip ((x.get t.i).getD .none).ty.ps, QC 59 (fun l => [x.v l, p.1.v, p.2.v]) (fun _ => bl (qdA sz x p.1 p.2))) : SzC x t (qa3 sz x t) := by
 have hr : qa3 sz x t = (((x.get t.i).getD .none).ty.res.n, (x.get t.i).isSome && (!((x.get t.i).getD .none).ty.res.cell && (!((x.get t.i).getD .none).arg && qbB (qdA sz x) t.ks ((x.get t.i).getD .none).ty.ps))) := by unfold qa3; simp [hf, hk]
 rw [hr]
 refine SzC.of (((qce x t).and ((qu3 x t.i hl).and (qog x t.ks ((x.get t.i).getD .none).ty.ps (qdA sz x) hlen hu))).mono fun n ⟨h, hc, ha⟩ E s l hm => ?_)
 obtain ⟨s1, a1, a2, a3⟩ := h E s l hm
 obtain ⟨s2, b1, b2, b3⟩ := hc E s1 l (by rw [qaM a2]; exact hm)
 obtain ⟨s3, c1, c2, c3⟩ := ha E s2 l (by rw [qaM b2, qaM a2]; exact hm)
 simp only [Sc.v, hf] at a1 b1 c1
 generalize hy : (x.get t.i).getD .none = y at b1 c1
 generalize hq : (x.get t.i).isSome = q at b1
 generalize qbB (qdA sz x) t.ks y.ty.ps = ao at c1
 suffices ∃ s', s163 (qae CP n E) n (x.v l) t.v s = some (.tuple [i64 y.ty.res.n, bl (q && (!y.ty.res.cell && (!y.arg && ao)))], s') ∧ (s' = s2 ∨ s' = s3) by
  obtain ⟨s', e, he⟩ := this
  rcases he with rfl | rfl
  ·exact ⟨_, e, b2.trans a2, b3.trans a3⟩
  ·exact ⟨_, e, c2.trans (b2.trans a2), c3.trans (b3.trans a3)⟩
 unfold s163 s163_1
 simp only [Tm.v_eq t, hk] at a1 ⊢
 simp only [Sc.v, qaL, qaN, qbo, qbI, qcd, qkI, qgu, qim, qbt, qcq, qcC, qdM, qbq, Option.bind_some, a1, b1, qab, qau, qaa, Bool.not_true, cond_false, qag, qaq, Option.map_some, Int.reduceEq, decide_true, decide_false, cond_true, qav, qah, qar, qas, Se.cells4, qcB, c1]
 cases q
 ·exact ⟨s2, rfl, .inl rfl⟩
 ·cases y.ty.res.cell
  ·cases y.arg
   ·exact ⟨s3, rfl, .inr rfl⟩
   ·exact ⟨s2, rfl, .inl rfl⟩
  ·exact ⟨s2, rfl, .inl rfl⟩
theorem qlW (hf : qbA t = true) (hk : t.k = 5 ∨ t.k = 6) (h : QC 196 (fun l => [x.v l, t.v]) (fun _ => .tuple [i64 (qch sz x t).1, bl (qch sz x t).2])) : SzC x t (qa3 sz x t) := by
 have hr : qa3 sz x t = qch sz x t := by unfold qa3; rcases hk with hk | hk <;> simp [hf, hk]
 rw [hr]
 generalize qch sz x t = r at h ⊢
 refine SzC.of (((qce x t).and h).mono fun n ⟨h, hc⟩ E s l hm => ?_)
 obtain ⟨s1, a1, a2, a3⟩ := h E s l hm
 obtain ⟨s2, b1, b2, b3⟩ := hc E s1 l (by rw [qaM a2]; exact hm)
 simp only [Sc.v, hf] at a1 b1
 refine ⟨s2, ?_, b2.trans a2, b3.trans a3⟩
 unfold s163 s163_4
 rcases hk with hk | hk <;>
 ·simp only [Tm.v_eq t, hk] at a1 b1 ⊢
  simp only [Sc.v, qaL, qaN, qbo, qbI, qbt, Option.bind_some, a1, b1, qab, qau, qaa, Bool.not_true, cond_false, qag, qaq, Option.map_some, Int.reduceEq, decide_true, decide_false, cond_true, qav, qah, qar, qas]
theorem qoh (hf : qbA t = true) (hk : t.k ≠ 1 ∧ t.k ≠ 2 ∧ t.k ≠ 3 ∧ t.k ≠ 4 ∧ t.k ≠ 15 ∧ t.k ≠ 12 ∧ t.k ≠ 14 ∧ t.k ≠ 5 ∧ t.k ≠ 6) (h : PtC x t (qbr sz x t)) : SzC x t (qa3 sz x t) := by
 obtain ⟨k1, k2, k3, k4, k15, k12, k14, k5, k6⟩ := hk
 have hr : qa3 sz x t = qbr sz x t := by unfold qa3; simp [hf, k1, k2, k3, k4, k15, k12, k14, k5, k6]
 rw [hr]
 generalize qbr sz x t = r at h ⊢
 refine SzC.of (((qce x t).and h).mono fun n ⟨h, hc⟩ E s l hm => ?_)
 obtain ⟨s1, a1, a2, a3⟩ := h E s l hm
 obtain ⟨s2, b1, b2, b3⟩ := hc E s1 l (by rw [qaM a2]; exact hm)
 simp only [Sc.v, hf] at a1 b1
 refine ⟨s2, ?_, b2.trans a2, b3.trans a3⟩
 unfold s163 s163_4
 simp only [Tm.v_eq t] at a1 b1 ⊢
 simp only [Sc.v, qaL, qaN, qbo, qbI, qbt, Option.bind_some, a1, b1, qab, qau, qaa, Bool.not_true, cond_false, qag, qaq, Option.map_some, k1, k2, k3, k4, k15, k12, k14, k5, k6, decide_false, qav, qah, qar, qas]
end
theorem qoi {t : Tm} (h : qbA t = true) : ∀ f, qcl formL t.k = some f → f.k < 0 ∨ f.k = t.ks.length := by
 intro f hf
 unfold qbA at h
 rw [hf] at h
 simp only [Bool.and_eq_true, Bool.or_eq_true, decide_eq_true_eq, Int.ofNat_eq_natCast] at h
 exact h.2
theorem ks1 {t : Tm} (h : t.ks.length = 1) : ∃ u, t.ks = [u] := by
 match hk : t.ks, h with
 | [u], _ => exact ⟨u, rfl⟩
theorem ks2 {t : Tm} (h : t.ks.length = 2) : ∃ u w, t.ks = [u, w] := by
 match hk : t.ks, h with
 | [u, w], _ => exact ⟨u, w, rfl⟩
theorem ks3 {t : Tm} (h : t.ks.length = 3) : ∃ c u w, t.ks = [c, u, w] := by
 match hk : t.ks, h with
 | [c, u, w], _ => exact ⟨c, u, w, rfl⟩
theorem ksk {t : Tm} (h : qbA t = true) {f : Form} (hf : qcl formL t.k = some f) {m : Nat} (hm : f.k = m) : t.ks.length = m := by
 rcases qoi h f hf with h | h <;> omega
theorem qhD {x : Sc} {y : Se} {a b : Nat} (h : x.B b) (hab : a < b) : (x.with y).B a := by
 obtain ⟨h1, h2, h3⟩ := h
 refine ⟨?_, h2, ?_⟩
 ·simp only [Sc.with, List.length_append, List.length_cons, List.length_nil]; omega
 ·simp only [Sc.with]; omega
theorem qm6 {x : Sc} {a b : Nat} (h : x.B b) (hab : a < b) : x.B a := by
 obtain ⟨h1, h2, h3⟩ := h
 exact ⟨by omega, h2, by omega⟩
theorem qrL {sz : Sc → Tm → Int × Bool} {x : Sc} {t : Tm} (hB : x.B t.size) (H : ∀ (u : Tm) (y : Sc), u.size < t.size → y.B u.size → SzC y u (sz y u)) : SzC x t (qa3 sz x t) := by
 have hl : x.ids.length ≤ 1000000 := by have := hB.1; omega
 have hlen : t.ks.length ≤ maxLen := by
  have := Tm.len_le_size t.ks
  have := hB.1
  rw [Tm.size_ks t] at this
  rw [qbF]; omega
 have hK : ∀ u ∈ t.ks, SzC x u (sz x u) := fun u hu => H u x (qa4 hu) (qm6 hB (qa4 hu))
 cases hf : qbA t with
 | false => exact qrK hf
 | true =>
  by_cases k1 : t.k = 1
  ·exact qu5 hf k1
  by_cases k2 : t.k = 2
  ·refine qu8 hf k2 hl hlen fun p hp => ?_
   have hm : p.1 ∈ t.ks := (List.of_mem_zip (a := p.1) (b := p.2) hp).1
   refine qlV p.2 hl (hK _ hm) fun u w r e => ?_
   have hu : u.size < p.1.size := qa4 (by rw [e]; exact List.mem_cons_self ..)
   have hw : w.size < p.1.size := qa4 (by rw [e]; exact List.mem_cons_of_mem _ (List.mem_cons_self ..))
   have hp1 := qa4 hm
   exact ⟨H u x (by omega) (qm6 hB (by omega)), H w _ (by omega) (qhD hB (by omega))⟩
  by_cases k3 : t.k = 3
  ·exact qu6 hf k3 hl
  by_cases k4 : t.k = 4
  ·obtain ⟨u, hu⟩ := ks1 (ksk hf (f := ⟨false, false, true, 1⟩) (m := 1) (by rw [k4]; rfl) rfl)
   exact qu7 hf k4 hu hl (hK u (by rw [hu]; exact List.mem_cons_self ..))
  by_cases k15 : t.k = 15
  ·exact qtp hf k15 hl
  by_cases k12 : t.k = 12
  ·exact qto hf k12
  by_cases k14 : t.k = 14
  ·exact qtn hf k14
  by_cases k5 : t.k = 5
  ·obtain ⟨u, w, hu⟩ := ks2 (ksk hf (f := ⟨true, true, false, 2⟩) (m := 2) (by rw [k5]; rfl) rfl)
   exact qlW hf (.inl k5) (qp2 hu k5 (hK u (by simp [hu])) (hK w (by simp [hu])))
  by_cases k6 : t.k = 6
  ·obtain ⟨u, hu⟩ := ks1 (ksk hf (f := ⟨true, false, false, 1⟩) (m := 1) (by rw [k6]; rfl) rfl)
   exact qlW hf (.inr k6) (qp1 hu k6 (hK u (by simp [hu])))
  refine qoh hf ⟨k1, k2, k3, k4, k15, k12, k14, k5, k6⟩ ?_
  by_cases k7 : t.k = 7
  ·obtain ⟨u, w, hu⟩ := ks2 (ksk hf (f := ⟨false, false, false, 2⟩) (m := 2) (by rw [k7]; rfl) rfl)
   exact qtk hu k7 (hK u (by simp [hu])) (hK w (by simp [hu]))
  by_cases k8 : t.k = 8
  ·obtain ⟨c, u, w, hu⟩ := ks3 (ksk hf (f := ⟨false, false, false, 3⟩) (m := 3) (by rw [k8]; rfl) rfl)
   exact qtm hu k8 (hK u (by simp [hu])) (hK w (by simp [hu])) (hK c (by simp [hu]))
  by_cases k9 : t.k = 9
  ·obtain ⟨u, w, hu⟩ := ks2 (ksk hf (f := ⟨false, false, false, 2⟩) (m := 2) (by rw [k9]; rfl) rfl)
   exact qtl hu k9 (hK u (by simp [hu])) (hK w (by simp [hu]))
  by_cases k10 : t.k = 10
  ·obtain ⟨u, hu⟩ := ks1 (ksk hf (f := ⟨true, true, false, 1⟩) (m := 1) (by rw [k10]; rfl) rfl)
   have hlt : u.size < t.size := qa4 (by simp [hu])
   exact qrI hu k10 hl (H u _ hlt (qhD hB hlt))
  by_cases k11 : t.k = 11
  ·obtain ⟨u, w, hu⟩ := ks2 (ksk hf (f := ⟨false, false, false, 2⟩) (m := 2) (by rw [k11]; rfl) rfl)
   have hlt : u.size < t.size := qa4 (by simp [hu])
   obtain ⟨b1, b2, b3⟩ := hB
   exact qrH hu k11 b2 (by omega) (H u _ hlt ⟨by show x.ids.length + _ ≤ _; omega, by show 0 ≤ x.size + 1; omega, by show x.size + 1 + _ ≤ _; omega⟩) (hK w (by simp [hu]))
  by_cases k13 : t.k = 13
  ·obtain ⟨u, w, hu⟩ := ks2 (ksk hf (f := ⟨false, false, false, 2⟩) (m := 2) (by rw [k13]; rfl) rfl)
   exact qrG hu k13 (hK u (by simp [hu])) (hK w (by simp [hu]))
  by_cases k18 : t.k = 18
  ·obtain ⟨u, hu⟩ := ks1 (ksk hf (f := ⟨true, false, true, 1⟩) (m := 1) (by rw [k18]; rfl) rfl)
   exact qrJ hu k18 hl (hK u (by simp [hu]))
  exact qmM ⟨k7, k8, k9, k10, k11, k13, k18⟩
def szD : Nat → Sc → Tm → Int × Bool
 | 0, _, _ => (0, false)
 | d + 1, x, t => qa3 (szD d) x t
theorem qtq : ∀ (d : Nat) (x : Sc) (t : Tm), t.size ≤ d → x.B t.size → SzC x t (szD d x t)
 | 0, x, t, h, _ => by have := Tm.size_pos t; omega
 | d + 1, x, t, h, hB => qrL hB fun u y hu hy => qtq d y u (by omega) hy
theorem qfo {f g : Tm → Bs → Bool} : ∀ {ks : List Tm} {ps : List Bs}, (∀ u ∈ ks, ∀ b, f u b = g u b) → qbB f ks ps = qbB g ks ps
 | [], [], _ => rfl
 | [], _ :: _, _ => rfl
 | _ :: _, [], _ => rfl
 | u :: ks, b :: ps, h => by
  simp only [qbB, h u (List.mem_cons_self ..), qfo (ks := ks) (ps := ps) fun v hv => h v (List.mem_cons_of_mem _ hv)]
theorem qmN {sz sz' : Sc → Tm → Int × Bool} {x : Sc} {t : Tm} (h : ∀ u y, u.size ≤ t.size → sz y u = sz' y u) (b : Bs) : qdA sz x t b = qdA sz' x t b := by
 unfold qdA
 rw [h t x (Nat.le_refl _)]
 match hks : t.ks with
 | [] => rfl
 | [_] => rfl
 | u :: w :: r =>
  have hu : u.size < t.size := qa4 (by simp [hks])
  have hw : w.size < t.size := qa4 (by simp [hks])
  simp only [h u _ (Nat.le_of_lt hu), h w _ (Nat.le_of_lt hw)]
theorem qgz {sz sz' : Sc → Tm → Int × Bool} {x : Sc} {t : Tm} (h : ∀ u y, u.size < t.size → sz y u = sz' y u) : qa3 sz x t = qa3 sz' x t := by
 have hK : ∀ u ∈ t.ks, ∀ y, sz y u = sz' y u := fun u hu y => h u y (qa4 hu)
 have h2 : qbB (qdA sz x) t.ks ((x.get t.i).getD .none).ty.ps = qbB (qdA sz' x) t.ks ((x.get t.i).getD .none).ty.ps :=
  qfo fun u hu b => qmN (fun v y hv => h v y (by have := qa4 hu; omega)) b
 have h4 : (match t.ks with | u :: _ => is2 (sz x u) ((x.get t.i).getD .none).ty.res.n | _ => false) = (match t.ks with | u :: _ => is2 (sz' x u) ((x.get t.i).getD .none).ty.res.n | _ => false) := by
  match hks : t.ks with
  | [] => rfl
  | u :: r => simp only [hK u (by simp [hks])]
 have hr : qch sz x t = qch sz' x t := by
  unfold qch
  match hks : t.ks with
  | [] => rfl
  | [u] => simp only [hK u (by simp [hks])]
  | u :: w :: r => simp only [hK u (by simp [hks]), hK w (by simp [hks])]
 have hp : qbr sz x t = qbr sz' x t := by
  unfold qbr
  match hks : t.ks with
  | [] => rfl
  | [u] => simp only [hK u (by simp [hks])]
  | [u, w] => simp only [hK u (by simp [hks]), hK w (by simp [hks])]
  | [c, u, w] => simp only [hK u (by simp [hks]), hK w (by simp [hks]), hK c (by simp [hks])]
  | _ :: _ :: _ :: _ :: _ => rfl
 unfold qa3
 rw [h2, h4, hr, hp]
def szF (x : Sc) (t : Tm) : Int × Bool := szD t.size x t
theorem qjQ : ∀ (d : Nat) (x : Sc) (t : Tm), t.size ≤ d → szD d x t = szF x t
 | 0, x, t, h => by have := Tm.size_pos t; omega
 | d + 1, x, t, h => by
  have : ∃ e, t.size = e + 1 := ⟨t.size - 1, by have := Tm.size_pos t; omega⟩
  obtain ⟨e, he⟩ := this
  show qa3 (szD d) x t = szD t.size x t
  rw [he]
  show qa3 (szD d) x t = qa3 (szD e) x t
  refine qgz fun u y hu => ?_
  rw [qjQ d y u (by omega), szF]
  rcases Nat.lt_or_ge e d with h1 | h1
  ·rw [qjQ e y u (by omega), szF]
  ·have : e = d := by omega
   rw [this, qjQ d y u (by omega), szF]
theorem qcf (x : Sc) (t : Tm) : szF x t = qa3 szF x t := by
 rw [← qjQ (t.size + 1) x t (by omega)]
 exact qgz fun u y hu => qjQ _ _ _ (by omega)
theorem qrM (x : Sc) (t : Tm) (hB : x.B t.size) : SzC x t (szF x t) := qtq t.size x t (Nat.le_refl _) hB
theorem qtr (x : Sc) (t : Tm) (b : Bs) (hB : x.B t.size) : QC 59 (fun l => [x.v l, t.v, b.v]) (fun _ => bl (qdA szF x t b)) := by
 have hl : x.ids.length ≤ 1000000 := by have := hB.1; omega
 refine qlV b hl (qrM x t hB) fun u w r e => ?_
 have hu : u.size < t.size := qa4 (by simp [e])
 have hw : w.size < t.size := qa4 (by simp [e])
 exact ⟨qrM x u (qm6 hB hu), qrM _ w (qhD hB hw)⟩
end Go.AI.Tryz
namespace Go.AI
theorem qkQ (v : AVal) : qbS (qbS v) = qbS v := by cases v <;> rfl
theorem qgA (v : AVal) : qcj (qcj v) = qcj v := by
 cases v <;> try rfl
 case agg cs =>
  simp only [qcj, List.map_map, AVal.agg.injEq]
  exact List.map_congr_left fun v _ => qkQ v
theorem qmO (v : AVal) : qaA (qaA v) = qaA v := by
 cases v <;> try rfl
 case agg cs => exact qgA (.agg cs)
 case tuple vs =>
  simp only [qaA, List.map_map, AVal.tuple.injEq]
  exact List.map_congr_left fun v _ => qgA v
theorem qjR (v : AVal) : qaK (qbS v) = qaK v := by cases v <;> rfl
theorem qg6 (v : AVal) : qbj (qaA v) = qbj v := by
 cases v <;> try rfl
 case agg cs =>
  simp only [qaA, qcj, qbj, List.all_map]
  congr 1
  funext v
  exact qjR v
theorem qis {CP : Nat → Option CF} {f : Nat} {cf : CF} (hcf : CP f = some cf) (hk : cf.keepA = false) (n : Nat) (E : qaJ) (args : List AVal) (s : ASt) : cl (qae CP n E) f args s = cl (qae CP n E) f (args.map qaA) s := by
 rw [qbL, qbL]
 cases n with
 | zero => rfl
 | succ n =>
  have h1 : (args.map qaA).map qaA = args.map qaA := by
   rw [List.map_map]
   exact List.map_congr_left fun v _ => qmO v
  have h2 : (args.map qaA).all qbj = args.all qbj := by
   rw [List.all_map]
   congr 1
   funext v
   exact qg6 v
  rw [qdc]
  unfold qbW
  rw [hcf, Option.bind_some, Option.bind_some, hk, List.length_map, h1, h2]
  rfl
theorem qgB (E : qaJ) (s : ASt) (es : List (PVal × PVal)) : qcn E (qbY s es) s.next = some es := by
 unfold qcn qbY
 simp only [qam, qaz rfl, cond_true]
theorem Ty.v_cells3 (t : Ty) : AVal.cells (some 3) t.v = some [.p (.sl t.ps.length (qaU Bs.cells t.ps)), bl t.res.cell, i64 t.res.n] := rfl
end Go.AI
namespace Go.AI.Tryz
def qaD (a : Ar) : Sc := ⟨a.ids.map fun t => ⟨t, false⟩, .ofNat a.ids.length, 0⟩
def qbJ (a : Ar) (t : Tm) : Int := if qcZ a ≠ 0 then qcZ a else if 600 < t.size then 5 else if qdA szF (qaD a) t a.root then 0 else 4
theorem qoj (a : Ar) (t : Tm) (oa : a.Ok) (ok : t.Ok) (h1 : a.ids.length ≤ 100000) (hs : t.size ≤ 100000) : PC CP 31 [a.v, t.v] (i64 (qbJ a t)) := by
 have hB : (qaD a).B t.size := ⟨by simp only [qaD, List.length_map]; omega, by simp only [qaD]; omega, by simp only [qaD]; omega⟩
 refine PC.of (cf := cf31) (np := 2) (args' := [a.v, t.v]) (r := i64 (qbJ a t)) (by kernel_rfl) (by kernel_rfl) rfl (by simp only [List.all_cons, qan]; rfl) (by simp only [List.map_cons, qao]; rfl) rfl (fun _ => rfl)
  (((qjO a oa).and ((qpY t ok (by omega)).and (forms_c.and ((qtr (qaD a) t a.root hB).and (Ev.ge (a.ids.length + 1)))))).mono fun n ⟨ha, hc, hf, hi, hn⟩ E s _ _ => ?_)
 rw [s31_eq]
 unfold s31 qbJ
 have hld2 : ∀ x y z w : AVal, ldL [x, y, z, w] 0 (some 4) = some (.agg [x, y, z, w]) := fun _ _ _ _ => rfl
 have hav : AVal.cells (some 4) a.v = some [.p (.sl a.ids.length (qaU Ty.cells a.ids)), bl a.root.cell, i64 a.root.n, bl a.jumps] := rfl
 have hag : (AVal.agg [.p (.sl a.ids.length (qaU Ty.cells a.ids)), bl a.root.cell, i64 a.root.n, bl a.jumps]) = a.v := rfl
 have htg : (AVal.agg [u8 t.k, i64 t.n, i64 t.m, i64 t.i, .p (.sl t.ks.length (Tm.cellsL t.ks))]) = t.v := (Tm.v_eq t).symm
 have htv : AVal.cells (some 5) t.v = some [u8 t.k, i64 t.n, i64 t.m, i64 t.i, .p (.sl t.ks.length (Tm.cellsL t.ks))] := by rw [Tm.v_eq]; rfl
 simp only [hav, htv, Option.bind_some, qbo, qbI, hag, htg, ha, qab, qag, qbm, Option.map_some, qaa]
 by_cases h0 : qcZ a = 0
 ·simp only [h0, decide_true, Bool.not_true, cond_false, hc, qab, qag, qbe, Option.map_some, Option.bind_some, qaa, ne_eq, not_true_eq_false, if_false]
  obtain ⟨c1, c2, c3⟩ := t.cnt2_ok
  by_cases h6 : 600 < t.size
  ·have : (600 : Int) < Int.ofNat t.cnt2 := by have := c3 h6; simp only [Int.ofNat_eq_natCast]; omega
   simp only [this, decide_true, cond_true, h6, if_true]
   exact ⟨s, rfl⟩
  ·have : ¬ (600 : Int) < Int.ofNat t.cnt2 := by simp only [Int.ofNat_eq_natCast]; omega
   simp only [this, decide_false, cond_false, h6, if_false, qcd, Option.bind_some, qcV, hf, qab]
   have hbd : bd [.sl 0 [] .full, i64 0, i64 0, .p .nilMap] [(1, none, .c (i64 (.ofNat a.ids.length))), (3, none, .c (.map s.next))] = some (.agg [.sl 0 [] .full, i64 (.ofNat a.ids.length), i64 0, .map s.next]) := rfl
   simp only [hbd, Option.bind_some, qaL, qcB]
   unfold s31_0
   generalize hF : (fun (h29 : AVal → Nat → List AVal → List AVal → List AVal → List AVal → ASt → Res) (x22 : AVal) (g23 : Nat) (c24 c25 c26 c27 : List AVal) (s28 : ASt) => _) = F
   generalize hs0 : qbY s qbc = s0
   let ids : List Se := a.ids.map fun t => ⟨t, false⟩
   let f : Nat → List PVal := fun j => qaU Se.cells (ids.take j)
   have hidl : ids.length = a.ids.length := by simp only [ids, List.length_map]
   have key : ∀ k (j g : Nat) (c : List AVal), j ≤ a.ids.length → a.ids.length - j < k → ∃ s', lp (fun _ _ _ _ _ _ _ => none) F k (i64 (.ofNat j)) g [.p (.sl a.ids.length (qaU Ty.cells a.ids)), bl a.root.cell, i64 a.root.n, bl a.jumps] [u8 t.k, i64 t.n, i64 t.m, i64 t.i, .p (.sl t.ks.length (Tm.cellsL t.ks))]
     [qfB f s0.ntok j, i64 (.ofNat a.ids.length), i64 0, .map s.next] c (qkc s0 4 j) = some (i64 (if qdA szF (qaD a) t a.root then 0 else 4), s') := by
    intro k
    induction k with
    | zero => intro j g c _ h; omega
    | succ k ih =>
     intro j g c hj hk
     rw [qa9]
     generalize lp _ _ k = L at ih ⊢
     subst hF
     rcases Nat.lt_or_ge j a.ids.length with h | h
     ·have hkj : a.ids[j]? = some a.ids[j] := List.getElem?_eq_getElem h
      have hld : ∀ s, ldH (qae CP n E) s (.elem (qaU Ty.cells a.ids) (j * 3)) (some 3) = some a.ids[j].v := fun s => qd4 (c := Ty.cells) (sz := 3) (fun _ => rfl) _ s hkj
      have hij : j < ids.length := by rw [hidl]; exact h
      have hidj : ids[j] = ⟨a.ids[j], false⟩ := by simp only [ids, List.getElem_map]
      have hb3 : ldL [.p (.sl a.ids[j].ps.length (qaU Bs.cells a.ids[j].ps)), bl a.ids[j].res.cell, i64 a.ids[j].res.n] 0 (some 3) = some a.ids[j].v := rfl
      have hbd : bd [.sl 0 [] .full, bl false, i64 0, bl false] [(0, some 3, .c a.ids[j].v)] = some (Se.v ⟨a.ids[j], false⟩) := rfl
      have hms : ms 1 [.sl 0 [], .bool false, .int .i64 0, .bool false] [(0, some 4, .c (Se.v ⟨a.ids[j], false⟩))] = some (.sl 1 (Se.cells ⟨a.ids[j], false⟩) .full) := rfl
      have hap := qlS (qae CP n E) (sz := 4) (b := 48) (f := f) (y := .sl 1 (Se.cells ⟨a.ids[j], false⟩) .full) s0 j rfl rfl (by omega) (by
       have := qc6 (c := Se.cells) hij
       rw [hidj] at this
       exact this)
      have hcv : AVal.cells none (qfB f s0.ntok (j + 1)) = some [qfB f s0.ntok (j + 1)] := rfl
      simp only [qag, qaE, qaH, Option.map_some, Option.bind_some, of_lt.2 h, decide_true, qaa, cond_true, qcY h, qab, hld, Ty.v_cells3, qkH, Nat.beq_refl, qcd, hb3, hbd, hms, hap, hcv, qfP, qa7 (show j < 9223372036854775807 by omega)]
      simp only [cnd]
      exact ih (j + 1) (g + 1) _ (by omega) (by omega)
     ·have : j = a.ids.length := by omega
      subst this
      have h3 : ¬ (Int.ofNat a.ids.length < Int.ofNat a.ids.length) := fun h => Nat.lt_irrefl _ (of_lt.1 h)
      have hm : qcn E (qkc s0 4 a.ids.length) s.next = some qbc := by
       have : (qkc s0 4 a.ids.length).heap = s0.heap := by
        cases a.ids.length <;> rfl
       rw [qaM this, ← hs0]
       exact qgB E s qbc
      obtain ⟨s', e, _, _⟩ := hi E _ _ hm
      have her : [AVal.agg [qfB f s0.ntok a.ids.length, i64 (.ofNat a.ids.length), i64 0, .map s.next], t.v, a.root.v].map qaA = [(qaD a).v s.next, t.v, a.root.v] := by
       have h1 : qbS (qfB f s0.ntok a.ids.length) = .p (.sl a.ids.length (f a.ids.length)) := qdX f _ _ rfl
       have h2 : f a.ids.length = qaU Se.cells (qaD a).ids := by
        show qaU Se.cells (ids.take a.ids.length) = qaU Se.cells ids
        rw [← hidl, List.take_length]
       have h3 : (qaD a).ids.length = a.ids.length := by simp only [qaD, List.length_map]
       simp only [List.map_cons, qao, List.map_nil]
       unfold Sc.v
       rw [h3, ← h2, ← h1]
       rfl
      have hcl := qis (CP := CP) (f := 59) (cf := cf59) (by kernel_rfl) (by kernel_rfl) n E [AVal.agg [qfB f s0.ntok a.ids.length, i64 (.ofNat a.ids.length), i64 0, .map s.next], t.v, a.root.v] (qkc s0 4 a.ids.length)
      rw [her] at hcl
      have hroot : ldL [.p (.sl a.ids.length (qaU Ty.cells a.ids)), bl a.root.cell, i64 a.root.n, bl a.jumps] 1 (some 2) = some a.root.v := rfl
      simp only [qag, qaE, Option.map_some, Option.bind_some, h3, decide_false, qaa, cond_false, qbo, qbI, hroot, htg, hcl, e, qab, qau]
      cases qdA szF (qaD a) t a.root
      ·exact ⟨s', rfl⟩
      ·exact ⟨s', rfl⟩
   obtain ⟨s', e⟩ := key n 0 0 [] (Nat.zero_le _) (by omega)
   exact ⟨s', e⟩
 ·simp only [h0, decide_false, Bool.not_false, cond_true, ne_eq, not_false_eq_true, if_true]
  exact ⟨s, rfl⟩
end Go.AI.Tryz
namespace Go.AI
def Tm.c (t : Tm) : List AVal := [u8 t.k, i64 t.n, i64 t.m, i64 t.i, .p (.sl t.ks.length (Tm.cellsL t.ks))]
theorem Tm.k_mk (k n m i : Int) (ks : List Tm) : (Tm.mk k n m i ks).k = k := rfl
theorem Tm.n_mk (k n m i : Int) (ks : List Tm) : (Tm.mk k n m i ks).n = n := rfl
theorem Tm.m_mk (k n m i : Int) (ks : List Tm) : (Tm.mk k n m i ks).m = m := rfl
theorem Tm.i_mk (k n m i : Int) (ks : List Tm) : (Tm.mk k n m i ks).i = i := rfl
theorem Tm.ks_mk (k n m i : Int) (ks : List Tm) : (Tm.mk k n m i ks).ks = ks := rfl
abbrev kv (l : List Tm) : AVal := .p (.sl l.length (Tm.cellsL l))
def Tm.z : Tm := .mk 0 0 0 0 []
section
variable (t : Tm)
theorem qal : AVal.cells (some 5) t.v = some t.c := by rw [Tm.v_eq]; rfl
theorem qaW : ldL t.c 0 (some 5) = some t.v := by rw [Tm.v_eq]; rfl
theorem qgC : ldL t.c 0 none = some (u8 t.k) := rfl
theorem qsx : ldL t.c 1 none = some (i64 t.n) := rfl
theorem qvF : ldL t.c 2 none = some (i64 t.m) := rfl
theorem qkR : ldL t.c 3 none = some (i64 t.i) := rfl
theorem qp3 : ldL t.c 4 none = some (kv t.ks) := rfl
theorem qaC (a b c d e : AVal) : over [a, b, c, d, e] 0 t.c = some t.c := rfl
theorem qok (u : Tm) : over u.c 0 t.c = some t.c := rfl
theorem qrN : t.c.all qaK = true := rfl
end
structure Vw where
 t : Tm
 sz : List Int
 ar : Int
def qeT (n : Int) : List PVal := [.int .i64 n]
abbrev iv (l : List Int) : AVal := .p (.sl l.length (qaU qeT l))
def Vw.v (x : Vw) : AVal := .agg [u8 x.t.k, i64 x.t.n, i64 x.t.m, i64 x.t.i, kv x.t.ks, iv x.sz, i64 x.ar]
def Vw.c (x : Vw) : List AVal := [u8 x.t.k, i64 x.t.n, i64 x.t.m, i64 x.t.i, kv x.t.ks, iv x.sz, i64 x.ar]
section
variable (x : Vw)
theorem qay : AVal.cells (some 7) x.v = some x.c := rfl
theorem qbR : ldL x.c 0 (some 7) = some x.v := rfl
theorem qkS : ldL x.c 0 none = some (u8 x.t.k) := rfl
theorem qjS : ldL x.c 1 none = some (i64 x.t.n) := rfl
theorem qpg : ldL x.c 2 none = some (i64 x.t.m) := rfl
theorem vld3 : ldL x.c 3 none = some (i64 x.t.i) := rfl
theorem qbV : ldL x.c 4 none = some (kv x.t.ks) := rfl
theorem qsy : ldL x.c 5 none = some (iv x.sz) := rfl
theorem qol : ldL x.c 6 none = some (i64 x.ar) := rfl
theorem qfD (a b c d e f g : AVal) : over [a, b, c, d, e, f, g] 0 x.c = some x.c := rfl
theorem qcI : x.c.all qaK = true := rfl
theorem qcx : qbj x.v = true := rfl
theorem qcy : qaA x.v = x.v := rfl
end
theorem qp4 (l : List Tm) : AVal.cells none (kv l) = some [kv l] := rfl
theorem qbg (f l o : Nat) (r : List AVal) : mf f [] (.ptr l o :: r) = some (.func f [] (.ptr l o :: r)) := by
 have h : ∀ xs : List AVal, (xs.map Arg.c).map (Arg.ev .nil) = xs := by
  intro xs
  induction xs with
  | nil => rfl
  | cons x xs ih => simp only [List.map_cons, ih]; rfl
 unfold mf pu
 simp only [qax, h]
 rfl
theorem qg7 (CP : Nat → Option CF) {n : Nat} (hn : 1 ≤ n) (E : qaJ) (f : Nat) (a b args : List AVal) (s : ASt) : clv (qae CP n E) (.func f a b) args s = cl (qae CP n E) f (a ++ (args ++ b)) s := by
 obtain ⟨m, rfl⟩ : ∃ m, n = m + 1 := ⟨n - 1, by omega⟩
 rw [qgr, qmD, qbL]
theorem qeI (CP : Nat → Option CF) {n : Nat} (hn : 1 ≤ n) (E : qaJ) (f : Nat) (args : List AVal) (s : ASt) : clv (qae CP n E) (.p (.func f [] [])) args s = cl (qae CP n E) f args s := by
 obtain ⟨m, rfl⟩ : ∃ m, n = m + 1 := ⟨n - 1, by omega⟩
 rw [qgr, qeo, qbL]
 simp only [List.map_nil, List.append_nil, List.nil_append]
@[simp] theorem qbH (off l o : Nat) (k : AVal → Res) : faK off (.ptr l o) k = k (.ptr l (o + off)) := rfl
@[simp] theorem qaS (s : ASt) (o : HObj) (k : Nat → ASt → Res) : qcS s o k = k s.next (qaf s o) := rfl
theorem ldP {e : Env} {s : ASt} {l : Nat} {cs : List AVal} (h : qaj e.E s l = some cs) (o : Nat) (n : Option Nat) : ldH e s (.ptr l o) n = ldL cs o n := by
 unfold ldH ldL
 simp only [loadFrom, h, Option.bind_some]
 cases n with
 | none =>
  simp only [cnt]
  cases cut cs o 1 with
  | none => rfl
  | some l =>
   match l with
   | [] => rfl
   | [_] => rfl
   | _ :: _ :: _ => rfl
 | some m =>
  simp only [cnt]
  cases cut cs o m <;> rfl
theorem qaI (E : qaJ) (s : ASt) (cs : List AVal) : qaj E (qaf s (.cells cs)) s.next = some cs := by
 unfold qaj qaf
 simp only [qam, qaz rfl, cond_true]
theorem qdN (E : qaJ) (s : ASt) (l : Nat) : qaj (s.heap ++ E) { s with heap := [], toks := [] } l = qaj E s l := by
 unfold qaj
 simp only [qam, qdI]
 cases qam s.heap l with
 | none => rfl
 | some o => cases o <;> rfl
theorem qci {e : Env} (s : ASt) (cs : List AVal) (o : Nat) (n : Option Nat) : ldH e (qaf s (.cells cs)) (.ptr s.next o) n = ldL cs o n := ldP (qaI _ _ _) o n
theorem qc0 (E : qaJ) (s : ASt) (cs : List AVal) (o : HObj) : qaj E (qaf (qaf s (.cells cs)) o) s.next = some cs := by
 unfold qaj qaf
 have : Nat.beq (s.next + 1) s.next = false := by
  cases h : Nat.beq (s.next + 1) s.next with
  | false => rfl
  | true => have := beq_iff.1 h; omega
 simp only [qam, this, qaz rfl, cond_true, cond_false]
theorem qqM {e : Env} (s : ASt) (cs : List AVal) (p : HObj) (o : Nat) (n : Option Nat) : ldH e (qaf (qaf s (.cells cs)) p) (.ptr s.next o) n = ldL cs o n := ldP (qc0 _ _ _ _) o n
theorem qg8 (s : ASt) (zs cs new : List AVal) (o : Nat) (ha : cs.all qaK = true) (h : over zs o cs = some new) : stH (qaf s (.cells zs)) (.ptr s.next o) cs = some (qaf s (.cells new)) := by
 unfold stH qbu qaf
 simp only [qam, qaF, qaz rfl, cond_true, ha, h, Option.bind_some, Option.map_some]
def Stab (C : qaJ → ASt → Prop) : Prop := ∀ E s, C E s → C (s.heap ++ E) { s with heap := [], toks := [] }
theorem Stab.at (l : Nat) (cs : List AVal) : Stab fun E s => qaj E s l = some cs := fun E s h => by
 show qaj _ _ l = _
 rw [qdN]; exact h
theorem Stab.and {C D : qaJ → ASt → Prop} (h : Stab C) (k : Stab D) : Stab fun E s => C E s ∧ D E s := fun E s x => ⟨h E s x.1, k E s x.2⟩
theorem Stab.true : Stab fun _ _ => True := fun _ _ _ => trivial
def RCn (CP : Nat → Option CF) (f : Nat) (args : List AVal) (C : qaJ → ASt → Prop) (r : AVal) : Prop := Ev fun n => ∀ E s, C E s → cl (qae CP n E) f args s = some (r, s)
theorem RCn.of {CP : Nat → Option CF} {f np : Nat} {cf : CF} {args args' : List AVal} {C : qaJ → ASt → Prop} {r' : AVal} (hcf : CP f = some cf) (hfl : flP cf np = true) (hl : args.length = np) (ha : args.all qbj = true) (hargs : args.map qaA = args') (hC : Stab C)
  (hpl : ∀ lo, qd0 lo r' = true) (hb : Ev fun n => ∀ E s, s.heap = [] → s.toks = [] → C E s → ∃ r s', qat cf (qae CP n E) n args' s = some (r, s') ∧ qaA r = r') : RCn CP f args C r' := by
 refine Ev.succ (hb.mono fun n h E s hc => ?_)
 obtain ⟨r, s', h, hv⟩ := h (s.heap ++ E) { s with heap := [], toks := [] } rfl rfl (hC E s hc)
 rw [qbL]
 exact qgq hcf hfl hl ha hargs h hv (hpl _)
theorem PC.of2 {CP : Nat → Option CF} {f np : Nat} {cf : CF} {args args' : List AVal} {r' : AVal} (hcf : CP f = some cf) (hfl : flP cf np = true) (hl : args.length = np) (ha : args.all qbj = true) (hargs : args.map qaA = args')
  (hpl : ∀ lo, qd0 lo r' = true) (hb : Ev fun n => ∀ E s, ∃ r s', qat cf (qae CP n E) n args' s = some (r, s') ∧ qaA r = r') : PC CP f args r' := by
 refine Ev.succ (hb.mono fun n h E s => ?_)
 obtain ⟨r, s', h, hv⟩ := h (s.heap ++ E) { s with heap := [], toks := [] }
 rw [qbL]
 exact qgq hcf hfl hl ha hargs h hv (hpl _)
end Go.AI
namespace Go.AI.Tryz
theorem qlX (l : List Int) (hl : l.length ≤ 1000000) (n0 : Int) : Ev fun n => ∀ E s, ∃ y s1 y2 s2, cl (qae CP n E) 183 [iv l] s = some (y, s1) ∧ ap (qae CP n E) 1 8 y (.sl 1 (qeT n0) .full) s1 = some (y2, s2) ∧ qbS y2 = iv (l ++ [n0]) ∧ AVal.cells none y2 = some [y2] ∧ s2.heap = s.heap ∧ s2.next = s.next := by
 refine Ev.succ (Ev.of fun n E s => ?_)
 rw [qbL]
 have h3 : ms 0 [] [] = some (.sl 0 [] .full) := rfl
 cases l with
 | nil =>
  have h1 : (qae CP (n + 1) E).call 183 [iv []] s = some (.sl 0 [] .full, s) := by
   refine qlU (cf := cf183) (a := .sl 0 [] .full) (b := .sl 0 [] .full) (sa := { s with heap := [], toks := [] }) (sb := { s with heap := [], toks := [] }) (by kernel_rfl) (by kernel_rfl) (by kernel_rfl) (of_decide_eq_true (by kernel_rfl)) rfl rfl ((s183_eq _ _ _ _).trans ?_) ((s183_eq _ _ _ _).trans ?_) rfl rfl <;> rfl
  have hap := qio (qae CP (n + 1) E) (sz := 1) (b := 8) (new := qeT n0) (y := .sl 1 (qeT n0) .full) s rfl rfl (by omega)
  exact ⟨_, _, _, _, h1, hap, rfl, rfl, rfl, rfl⟩
 | cons a r =>
  have hlen : (qaU qeT (a :: r)).length = (r.length + 1) * 1 := qcH (c := qeT) (fun _ => rfl) (a :: r)
  have hap0 : ap (qae CP n E) 1 8 (.sl 0 [] .full) (iv (a :: r)) s = _ := qob (qae CP n E) (sz := 1) (b := 8) s hlen (by simp only [List.length_cons] at hl; omega)
  have h1 : (qae CP (n + 1) E).call 183 [iv (a :: r)] s = some (.sl (r.length + 1) (qaU qeT (a :: r)) (.own s.ntok), qir s (r.length + 1) 1) := by
   refine qod (cf := cf183) (args' := [iv (a :: r)]) (by kernel_rfl) (by kernel_rfl) (by kernel_rfl) (by kernel_rfl) (by kernel_rfl) (by kernel_rfl) (of_decide_eq_true (by kernel_rfl)) rfl rfl rfl ((s183_eq _ _ _ _).trans ?_) rfl
   unfold s183
   have hq : eqv 5 false (iv (a :: r)) (.sl 0 [] .full) = some (bl false) := rfl
   simp only [hq, Option.bind_some, qaa, cond_false, h3, hap0, qab]
  have hap := qn8 (qae CP (n + 1) E) (sz := 1) (b := 8) (n := r.length + 1) (t := s.ntok) (cs := qaU qeT (a :: r)) (new := qeT n0) (y := .sl 1 (qeT n0) .full) (qir s (r.length + 1) 1) rfl rfl (by simp only [List.length_cons] at hl; omega) s.toks
  have e1 : { qir s (r.length + 1) 1 with toks := (s.ntok, r.length + 1, 1) :: s.toks } = qir s (r.length + 1) 1 := rfl
  rw [e1] at hap
  refine ⟨_, _, _, _, h1, hap, ?_, rfl, rfl, rfl⟩
  show AVal.p _ = _
  have : qaU qeT (a :: r ++ [n0]) = qaU qeT (a :: r) ++ qeT n0 := qgy _ _ _
  rw [iv, this]
  simp only [List.length_append, List.length_cons, List.length_nil]
def vw (x : Sc) (t : Tm) : Vw := ⟨t, x.ids.map fun e => e.ty.res.n, x.top⟩
def _root_.Go.AI.Sc.kid (x : Sc) (t : Tm) (j : Nat) : Sc :=
 if t.k = 10 then x.with ⟨⟨[], ⟨true, t.n⟩⟩, false⟩
 else if t.k = 17 ∧ j = 1 then x.with ⟨⟨[], ⟨false, (szF x (t.ks.headD .z)).1⟩⟩, true⟩
 else if t.k = 11 ∧ j = 0 then { x with size := x.size + 1 }
 else x
theorem qom (x : Sc) (e : Se) (t : Tm) : vw (x.with e) t = ⟨t, (x.ids.map fun e => e.ty.res.n) ++ [e.ty.res.n], x.top⟩ := by
 simp only [vw, Sc.with, List.map_append, List.map_cons, List.map_nil]
theorem qjT (x : Sc) (t u : Tm) (j : Nat) (hj : t.ks[j]? = some u) (hl : x.ids.length ≤ 1000000) (h17 : t.k = 17 → j = 1 → ∃ w, t.ks[0]? = some w ∧ PC CP 132 [(vw x t).v, i64 0] (vw x w).v ∧ PC CP 130 [(vw x w).v] (i64 (szF x w).1)) : PC CP 132 [(vw x t).v, i64 (.ofNat j)] (vw (x.kid t j) u).v := by
 have hjl : j < t.ks.length := (List.getElem?_eq_some_iff.1 hj).1
 have hia : iaV 5 (kv t.ks) (i64 (.ofNat j)) = some (Tm.cellsL t.ks, j * 5) := Tm.ia_kid hjl
 have hz : ∀ n0 : Int, ms 1 [.int .i64 0] [(0, none, .c (i64 n0))] = some (.sl 1 (qeT n0) .full) := fun _ => rfl
 have hbd : bd [u8 0, i64 0, i64 0, i64 0, .sl 0 [] .full, .sl 0 [] .full, i64 0] [(0, some 5, .c u.v), (5, none, .c (iv (vw x t).sz)), (6, none, .c (i64 (vw x t).ar))] = some (vw x u).v := by rw [Tm.v_eq]; rfl
 have hvz : ∀ (y : AVal) (z : List Int), AVal.cells none y = some [y] → ∃ cs, over (vw x u).c 5 [y] = some cs ∧ ldL cs 0 (some 7) = some (.agg cs) ∧ AVal.cells (some 7) (.agg cs) = some cs ∧ (∀ a b c d e f g : AVal, over [a, b, c, d, e, f, g] 0 cs = some cs) ∧ (qbS y = iv z → qaA (.agg cs) = (Vw.v ⟨u, z, x.top⟩)) := by
  intro y z hy
  refine ⟨[u8 u.k, i64 u.n, i64 u.m, i64 u.i, kv u.ks, y, i64 x.top], rfl, rfl, rfl, fun _ _ _ _ _ _ _ => rfl, fun he => ?_⟩
  show AVal.agg [_, _, _, _, _, qbS y, _] = _
  rw [he]
  rfl
 have hsl : (vw x t).sz.length ≤ 1000000 := by simp only [vw, List.length_map]; exact hl
 refine PC.of2 (cf := cf132) (np := 2) (args' := [(vw x t).v, i64 (.ofNat j)]) (by kernel_rfl) (by kernel_rfl) rfl rfl rfl (fun _ => rfl) ?_
 suffices Ev fun n => ∀ E s, ∃ r s', s132 (qae CP n E) n (vw x t).v (i64 (.ofNat j)) s = some (r, s') ∧ qaA r = (vw (x.kid t j) u).v by
  refine this.mono fun n h E s => ?_
  obtain ⟨r, s', e, he⟩ := h E s
  exact ⟨r, s', (s132_eq _ _ _ _ _).trans e, he⟩
 have hvk : (vw x t).t = t := rfl
 have hld : ∀ n E s, ldH (qae CP n E) s (.elem (Tm.cellsL t.ks) (j * 5)) (some 5) = some u.v := fun n E s => Tm.ld_kid _ _ hj
 by_cases h10 : t.k = 10
 ·refine (qlX (vw x t).sz hsl t.n).mono fun n h E s => ?_
  obtain ⟨y, s1, y2, s2, e1, e2, e3, e4, _, _⟩ := h E s
  obtain ⟨cs, c1, c2, c3, c4, c5⟩ := hvz y2 _ e4
  refine ⟨.agg cs, s2, ?_, ?_⟩
  ·unfold s132 s132_0
   simp only [qay, qbV, qsy, qol, qkS, qjS, hvk, h10, hia, hld, hbd, qfD, qag, qaq, decide_true, qaa, cond_true, qav, Option.map_some, Option.bind_some, qab, e1, hz, e2, e4, c1, c2, c3, c4]
  ·rw [c5 e3]
   simp only [Sc.kid, h10, if_true, qom]
   rfl
 ·by_cases h17j : t.k = 17 ∧ j = 1
  ·obtain ⟨h17', rfl⟩ := h17j
   obtain ⟨w, hw, g1, g2⟩ := h17 h17' rfl
   have hhd : t.ks.headD .z = w := by
    cases hk : t.ks with
    | nil => rw [hk] at hw; cases hw
    | cons a r => rw [hk] at hw; simp only [List.getElem?_cons_zero, Option.some.injEq] at hw; exact hw
   refine ((qlX (vw x t).sz hsl (szF x w).1).and (g1.and g2)).mono fun n ⟨h, g1, g2⟩ E s => ?_
   obtain ⟨y, s1, y2, s2, e1, e2, e3, e4, _, _⟩ := h E s
   obtain ⟨cs, c1, c2, c3, c4, c5⟩ := hvz y2 _ e4
   refine ⟨.agg cs, s2, ?_, ?_⟩
   ·unfold s132 s132_2 s132_1 s132_0
    have h1 : (Int.ofNat 1 : Int) = 1 := rfl
    have hia1 : iaV 5 (kv t.ks) (i64 1) = some (Tm.cellsL t.ks, 1 * 5) := hia
    simp only [qay, qbV, qsy, qol, qkS, qjS, hvk, h17', hia1, hld, hbd, qfD, qag, qaq, Int.reduceEq, h1, decide_true, decide_false, qaa, cond_true, cond_false, qav, Option.map_some, Option.bind_some, qab, e1, qbR, g1, g2, hz, e2, e4, c1, c2, c3, c4]
   ·rw [c5 e3]
    simp only [Sc.kid, h17', Int.reduceEq, if_false, true_and, if_true, qom, hhd]
    rfl
  ·have hkid : (vw (x.kid t j) u) = vw x u := by
    unfold Sc.kid
    rw [if_neg h10, if_neg h17j]
    split <;> rfl
   refine Ev.of fun n E s => ⟨(vw x u).v, s, ?_, by rw [hkid]; rfl⟩
   unfold s132 s132_2 s132_1 s132_0
   by_cases h17' : t.k = 17
   ·have hj1 : ¬ ((Int.ofNat j : Int) = 1) := by
     intro h
     exact h17j ⟨h17', by simp only [Int.ofNat_eq_natCast] at h; omega⟩
    simp only [qay, qbR, qbV, qsy, qol, qkS, qjS, hvk, h17', hia, hld, hbd, qfD, qag, qaq, Int.reduceEq, hj1, decide_true, decide_false, qaa, cond_true, cond_false, qav, Option.map_some, Option.bind_some, qab]
   ·simp only [qay, qbR, qbV, qsy, qol, qkS, qjS, hvk, h10, h17', hia, hld, hbd, qfD, qag, qaq, decide_false, qaa, cond_false, qav, Option.map_some, Option.bind_some, qab]
end Go.AI.Tryz
namespace Go.AI
namespace Tm
abbrev num (n m : Int) : Tm := .mk 1 n m 0 []
abbrev use (i : Int) (ks : List Tm) : Tm := .mk 2 0 0 i ks
abbrev get (i : Int) : Tm := .mk 3 0 0 i []
abbrev put (i : Int) (u : Tm) : Tm := .mk 4 0 0 i [u]
abbrev op (n m : Int) (u w : Tm) : Tm := .mk 5 n m 0 [u, w]
abbrev az (n : Int) (u : Tm) : Tm := .mk 6 n 0 0 [u]
abbrev seq (u w : Tm) : Tm := .mk 7 0 0 0 [u, w]
abbrev ite (c u w : Tm) : Tm := .mk 8 0 0 0 [c, u, w]
abbrev whl (u w : Tm) : Tm := .mk 9 0 0 0 [u, w]
abbrev new (n m : Int) (u : Tm) : Tm := .mk 10 n m 0 [u]
abbrev lbl (u w : Tm) : Tm := .mk 11 0 0 0 [u, w]
abbrev jmp (n : Int) : Tm := .mk 12 n 0 0 []
abbrev cho (u w : Tm) : Tm := .mk 13 0 0 0 [u, w]
abbrev hang : Tm := .mk 14 0 0 0 []
abbrev val (i : Int) : Tm := .mk 15 0 0 i []
abbrev cel (i : Int) : Tm := .mk 16 0 0 i []
abbrev obj (u w : Tm) : Tm := .mk 17 0 0 0 [u, w]
abbrev ntc (n i : Int) (u : Tm) : Tm := .mk 18 n 0 i [u]
end Tm
inductive Sh : Tm → Prop where
 | num (n m) : Sh (.num n m)
 | use (i ks) : Sh (.use i ks)
 | get (i) : Sh (.get i)
 | put (i u) : Sh (.put i u)
 | op (n m u w) : Sh (.op n m u w)
 | az (n u) : Sh (.az n u)
 | seq (u w) : Sh (.seq u w)
 | ite (c u w) : Sh (.ite c u w)
 | whl (u w) : Sh (.whl u w)
 | new (n m u) : Sh (.new n m u)
 | lbl (u w) : Sh (.lbl u w)
 | jmp (n) : Sh (.jmp n)
 | cho (u w) : Sh (.cho u w)
 | hang : Sh .hang
 | val (i) : Sh (.val i)
 | cel (i) : Sh (.cel i)
 | obj (u w) : Sh (.obj u w)
 | ntc (n i u) : Sh (.ntc n i u)
theorem qsz {l : List Tm} (h : 0 = l.length) : l = [] := List.length_eq_zero_iff.1 h.symm
theorem quw {l : List Tm} (h : 1 = l.length) : ∃ u, l = [u] := by
 match l, h with
 | [u], _ => exact ⟨u, rfl⟩
theorem qsA {l : List Tm} (h : 2 = l.length) : ∃ u w, l = [u, w] := by
 match l, h with
 | [u, w], _ => exact ⟨u, w, rfl⟩
theorem len3 {l : List Tm} (h : 3 = l.length) : ∃ c u w, l = [c, u, w] := by
 match l, h with
 | [c, u, w], _ => exact ⟨c, u, w, rfl⟩
theorem qkT {k : Int} {f : Form} (h : qcl formL k = some f) : (k = 1 ∧ f = ⟨true, true, false, 0⟩) ∨ (k = 2 ∧ f = ⟨false, false, true, -1⟩) ∨ (k = 3 ∧ f = ⟨false, false, true, 0⟩) ∨ (k = 4 ∧ f = ⟨false, false, true, 1⟩) ∨ (k = 5 ∧ f = ⟨true, true, false, 2⟩) ∨ (k = 6 ∧ f = ⟨true, false, false, 1⟩)
  ∨ (k = 7 ∧ f = ⟨false, false, false, 2⟩) ∨ (k = 8 ∧ f = ⟨false, false, false, 3⟩) ∨ (k = 9 ∧ f = ⟨false, false, false, 2⟩) ∨ (k = 10 ∧ f = ⟨true, true, false, 1⟩) ∨ (k = 11 ∧ f = ⟨false, false, false, 2⟩) ∨ (k = 12 ∧ f = ⟨true, false, false, 0⟩)
  ∨ (k = 13 ∧ f = ⟨false, false, false, 2⟩) ∨ (k = 14 ∧ f = ⟨false, false, false, 0⟩) ∨ (k = 15 ∧ f = ⟨false, false, true, 0⟩) ∨ (k = 16 ∧ f = ⟨false, false, true, 0⟩) ∨ (k = 17 ∧ f = ⟨false, false, false, 2⟩) ∨ (k = 18 ∧ f = ⟨true, false, true, 1⟩) := by
 unfold formL at h
 iterate 18 (
  unfold qcl at h
  split at h
  ·injection h with h
   subst h
   rename_i e
   subst e
   simp)
 cases h
theorem qon {t : Tm} (h : qbA t = true) : Sh t := by
 obtain ⟨k, n, m, i, ks⟩ := t
 unfold qbA at h
 cases hf : qcl formL (Tm.mk k n m i ks).k with
 | none => rw [hf] at h; cases h
 | some f =>
  rw [hf] at h
  simp only [Bool.and_eq_true, Bool.or_eq_true, decide_eq_true_eq, Int.ofNat_eq_natCast] at h
  obtain ⟨⟨⟨h1, h2⟩, h3⟩, h4⟩ := h
  simp only [Tm.n, Tm.m, Tm.i, Tm.ks] at h1 h2 h3 h4
  rcases qkT hf with ⟨e, rfl⟩ | ⟨e, rfl⟩ | ⟨e, rfl⟩ | ⟨e, rfl⟩ | ⟨e, rfl⟩ | ⟨e, rfl⟩ | ⟨e, rfl⟩ | ⟨e, rfl⟩ | ⟨e, rfl⟩ | ⟨e, rfl⟩ | ⟨e, rfl⟩ | ⟨e, rfl⟩ | ⟨e, rfl⟩ | ⟨e, rfl⟩ | ⟨e, rfl⟩ | ⟨e, rfl⟩ | ⟨e, rfl⟩ | ⟨e, rfl⟩ <;>
   simp only [Bool.false_eq_true, false_or, true_or, Int.reduceLT, Int.reduceNeg] at h1 h2 h3 h4 <;> simp only [Tm.k] at e <;> subst e
  ·subst h3; rw [qsz (l := ks) (by omega)]; exact .num ..
  ·subst h1 h2; exact .use ..
  ·subst h1 h2; rw [qsz (l := ks) (by omega)]; exact .get ..
  ·subst h1 h2; obtain ⟨u, rfl⟩ := quw (l := ks) (by omega); exact .put ..
  ·subst h3; obtain ⟨u, w, rfl⟩ := qsA (l := ks) (by omega); exact .op ..
  ·subst h2 h3; obtain ⟨u, rfl⟩ := quw (l := ks) (by omega); exact .az ..
  ·subst h1 h2 h3; obtain ⟨u, w, rfl⟩ := qsA (l := ks) (by omega); exact .seq ..
  ·subst h1 h2 h3; obtain ⟨c, u, w, rfl⟩ := len3 (l := ks) (by omega); exact .ite ..
  ·subst h1 h2 h3; obtain ⟨u, w, rfl⟩ := qsA (l := ks) (by omega); exact .whl ..
  ·subst h3; obtain ⟨u, rfl⟩ := quw (l := ks) (by omega); exact .new ..
  ·subst h1 h2 h3; obtain ⟨u, w, rfl⟩ := qsA (l := ks) (by omega); exact .lbl ..
  ·subst h2 h3; rw [qsz (l := ks) (by omega)]; exact .jmp ..
  ·subst h1 h2 h3; obtain ⟨u, w, rfl⟩ := qsA (l := ks) (by omega); exact .cho ..
  ·subst h1 h2 h3; rw [qsz (l := ks) (by omega)]; exact .hang
  ·subst h1 h2; rw [qsz (l := ks) (by omega)]; exact .val ..
  ·subst h1 h2; rw [qsz (l := ks) (by omega)]; exact .cel ..
  ·subst h1 h2 h3; obtain ⟨u, w, rfl⟩ := qsA (l := ks) (by omega); exact .obj ..
  ·subst h2; obtain ⟨u, rfl⟩ := quw (l := ks) (by omega); exact .ntc ..
theorem qcD {t : Tm} (h : Sh t) : qbA t = true := by
 cases h <;> simp [qbA, Tm.k, Tm.n, Tm.m, Tm.i, Tm.ks, formL, qcl]
end Go.AI
namespace Go.AI.Tryz
section
variable (x : Sc)
theorem qdx (n m) : szF x (.num n m) = (m, qby m && qbw n m) := by rw [qcf]; unfold qa3; rw [if_pos (qcD (.num ..))]; rfl
theorem qgD (i ks) : szF x (.use i ks) = (((x.get i).getD .none).ty.res.n, (x.get i).isSome && (!((x.get i).getD .none).ty.res.cell && (!((x.get i).getD .none).arg && qbB (qdA szF x) ks ((x.get i).getD .none).ty.ps))) := by rw [qcf]; unfold qa3; rw [if_pos (qcD (.use ..))]; rfl
theorem qhE (i) : szF x (.get i) = (((x.get i).getD .none).ty.res.n, (x.get i).any fun e => e.ty.res.cell) := by rw [qcf]; unfold qa3; rw [if_pos (qcD (.get ..))]; rfl
theorem qeJ (i u) : szF x (.put i u) = (1, ((x.get i).any fun e => e.ty.res.cell) && is2 (szF x u) ((x.get i).getD .none).ty.res.n) := by rw [qcf]; unfold qa3; rw [if_pos (qcD (.put ..))]; rfl
theorem qhF (i) : szF x (.val i) = (((x.get i).getD .none).ty.res.n, (x.get i).isSome && ((x.get i).getD .none).arg) := by rw [qcf]; unfold qa3; rw [if_pos (qcD (.val ..))]; rfl
theorem qlY (n) : szF x (.jmp n) = (1, qbw n x.size) := by rw [qcf]; unfold qa3; rw [if_pos (qcD (.jmp ..))]; rfl
theorem qit : szF x .hang = (1, true) := by rw [qcf]; unfold qa3; rw [if_pos (qcD .hang)]; rfl
theorem qeK (n m u w) : szF x (.op n m u w) = if n = 1 ∨ n = 2 ∨ n = 3 then (m, qby m && (is2 (szF x u) m && is2 (szF x w) m)) else if n = 4 ∨ n = 5 then (2, qby m && (is2 (szF x u) m && is2 (szF x w) m)) else (0, false) := by rw [qcf]; unfold qa3; rw [if_pos (qcD (.op ..))]; rfl
theorem qeL (n u) : szF x (.az n u) = (n, (szF x u).2 && qby n) := by rw [qcf]; unfold qa3; rw [if_pos (qcD (.az ..))]; rfl
theorem qbQ (u w) : szF x (.seq u w) = ((szF x w).1, (szF x w).2 && is2 (szF x u) 1) := by rw [qcf]; unfold qa3; rw [if_pos (qcD (.seq ..))]; rfl
theorem qcm (c u w) : szF x (.ite c u w) = ((szF x u).1, ((szF x u).2 && is2 (szF x w) (szF x u).1) && (szF x c).2) := by rw [qcf]; unfold qa3; rw [if_pos (qcD (.ite ..))]; rfl
theorem qfp (u w) : szF x (.whl u w) = (1, (szF x u).2 && is2 (szF x w) 1) := by rw [qcf]; unfold qa3; rw [if_pos (qcD (.whl ..))]; rfl
theorem qeM (n m u) : szF x (.new n m u) = ((szF (x.with ⟨⟨[], ⟨true, n⟩⟩, false⟩) u).1, (szF (x.with ⟨⟨[], ⟨true, n⟩⟩, false⟩) u).2 && (qby n && qbw m n)) := by rw [qcf]; unfold qa3; rw [if_pos (qcD (.new ..))]; rfl
theorem qd6 (u w) : szF x (.lbl u w) = ((szF { x with size := x.size + 1 } u).1, (szF { x with size := x.size + 1 } u).2 && is2 (szF x w) (szF { x with size := x.size + 1 } u).1) := by rw [qcf]; unfold qa3; rw [if_pos (qcD (.lbl ..))]; rfl
theorem qd7 (u w) : szF x (.cho u w) = ((szF x u).1, (szF x u).2 && is2 (szF x w) (szF x u).1) := by rw [qcf]; unfold qa3; rw [if_pos (qcD (.cho ..))]; rfl
theorem qfq (i) : szF x (.cel i) = (0, false) := by rw [qcf]; unfold qa3; rw [if_pos (qcD (.cel ..))]; rfl
theorem qd8 (u w) : szF x (.obj u w) = (0, false) := by rw [qcf]; unfold qa3; rw [if_pos (qcD (.obj ..))]; rfl
theorem qd9 (n i u) : szF x (.ntc n i u) = ((szF x u).1, (szF x u).2 && (((x.get i).any fun e => e.ty.res.cell) && (decide (x.top < i) && qbw n ((x.get i).getD .none).ty.res.n))) := by rw [qcf]; unfold qa3; rw [if_pos (qcD (.ntc ..))]; rfl
theorem qdq {x : Sc} {t : Tm} (h : (szF x t).2 = true) : Sh t := by
 cases hf : qbA t with
 | true => exact qon hf
 | false =>
  rw [qcf] at h
  unfold qa3 at h
  simp only [hf, Bool.false_eq_true, if_false] at h
end
theorem is2_iff {r : Int × Bool} {n : Int} : is2 r n = true ↔ r = (n, true) := by
 obtain ⟨a, b⟩ := r
 simp only [is2, Bool.and_eq_true, decide_eq_true_eq, Prod.mk.injEq]
 exact And.comm
end Go.AI.Tryz
namespace Go.AI
theorem Sc.get_inv {x : Sc} {i : Int} {e : Se} (h : x.get i = some e) : ∃ j : Nat, i = Int.ofNat j + 1 ∧ x.ids[j]? = some e := by
 unfold Sc.get at h
 split at h
 ·cases h
 ·refine ⟨(i - 1).toNat, ?_, h⟩
  simp only [Int.ofNat_eq_natCast]; omega
end Go.AI
namespace Go.AI.Tryz
theorem SizeC.of {x : Sc} {t : Tm} {r : Int} (h : Ev fun n => ∀ E s, ∃ s', s130 (qae CP n E) n (vw x t).v s = some (i64 r, s')) : PC CP 130 [(vw x t).v] (i64 r) := by
 refine PC.of2 (cf := cf130) (np := 1) (args' := [(vw x t).v]) (by kernel_rfl) (by kernel_rfl) rfl rfl rfl (fun _ => rfl) (h.mono fun n h E s => ?_)
 obtain ⟨s', e⟩ := h E s
 exact ⟨_, s', (s130_eq _ _ _ _).trans e, rfl⟩
theorem qiu {x : Sc} {t : Tm} {e : Se} (hk : t.k = 2 ∨ t.k = 3 ∨ t.k = 15) (he : x.get t.i = some e) (hl : x.ids.length ≤ 1000000) : PC CP 130 [(vw x t).v] (i64 e.ty.res.n) := by
 refine SizeC.of (Ev.of fun n E s => ⟨s, ?_⟩)
 obtain ⟨j, hi, hj⟩ := Sc.get_inv he
 have hjl : j < x.ids.length := (List.getElem?_eq_some_iff.1 hj).1
 have hsz : (vw x t).sz[j]? = some e.ty.res.n := by simp only [vw, List.getElem?_map, hj, Option.map_some]
 have hjl2 : j < (vw x t).sz.length := (List.getElem?_eq_some_iff.1 hsz).1
 have hw : qa8 .i64 (t.i - 1) = Int.ofNat j := by
  rw [hi, qbT (by simp only [Int.ofNat_eq_natCast]; omega) (by simp only [Int.ofNat_eq_natCast]; omega)]
  simp only [Int.ofNat_eq_natCast]; omega
 have hia : iaV 1 (iv (vw x t).sz) (i64 (.ofNat j)) = some (qaU qeT (vw x t).sz, j * 1) := qcY (c := qeT) (sz := 1) hjl2
 have hld := qkK (c := qeT) (sz := 1) (fun _ => rfl) (qae CP n E) s hsz (by omega)
 have hvk : (vw x t).t = t := rfl
 unfold s130 s130_8 s130_7 s130_6
 rcases hk with hk | hk | hk <;>
 ·simp only [qay, qkS, vld3, qsy, hvk, hk, qag, qaq, qbP, Int.reduceEq, decide_true, decide_false, qaa, cond_true, cond_false, qav, Option.map_some, Option.bind_some, hw, hia, qab, hld]
  rfl
theorem qdY {x y : Sc} {t w : Tm} {r : Int} (hk : t.k = 7 ∨ t.k = 8 ∨ t.k = 10 ∨ t.k = 11 ∨ t.k = 13 ∨ t.k = 18) {m : Nat} (hm : t.ks.length = m + 1) (hm2 : m < 10) (hkid : PC CP 132 [(vw x t).v, i64 (.ofNat m)] (vw y w).v) (hw : PC CP 130 [(vw y w).v] (i64 r)) : PC CP 130 [(vw x t).v] (i64 r) := by
 refine SizeC.of ((hkid.and hw).mono fun n ⟨h1, h2⟩ E s => ⟨s, ?_⟩)
 have hvk : (vw x t).t = t := rfl
 have hln : ln false (kv t.ks) = some (i64 (.ofNat (m + 1))) := by rw [← hm]; rfl
 have hw : qa8 .i64 (Int.ofNat (m + 1) - 1) = Int.ofNat m := by
  rw [qbT (by simp only [Int.ofNat_eq_natCast]; omega) (by simp only [Int.ofNat_eq_natCast]; omega)]
  simp only [Int.ofNat_eq_natCast]; omega
 unfold s130 s130_8 s130_7 s130_6 s130_5 s130_4 s130_3 s130_2 s130_1
 rcases hk with hk | hk | hk | hk | hk | hk <;>
 ·simp only [qay, qkS, qbV, qbR, hvk, hk, hln, qag, qaq, qbP, Int.reduceEq, decide_true, decide_false, qaa, cond_true, cond_false, qav, Option.map_some, Option.bind_some, hw, qab, h1, h2]
theorem qe7 : ∀ (d : Nat) (t : Tm) (x : Sc), t.size ≤ d → x.B t.size → (szF x t).2 = true → PC CP 130 [(vw x t).v] (i64 (szF x t).1)
 | 0, t, _, h, _, _ => by have := Tm.size_pos t; omega
 | d + 1, t, x, hd, hB, h => by
  have hl : x.ids.length ≤ 1000000 := by have := hB.1; omega
  have IH : ∀ (u : Tm) (y : Sc), u ∈ t.ks → y.B u.size → (szF y u).2 = true → PC CP 130 [(vw y u).v] (i64 (szF y u).1) := fun u y hu hy hs => qe7 d u y (by have := qa4 hu; omega) hy hs
  have hvk : (vw x t).t = t := rfl
  cases qdq h with
  | num n m =>
   rw [qdx] at h ⊢
   refine SizeC.of (Ev.of fun n E s => ⟨s, ?_⟩)
   unfold s130
   simp only [qay, qkS, qpg, hvk, Tm.k_mk, Tm.m_mk, qag, qaq, decide_true, qaa, cond_true, Option.map_some, Option.bind_some]
  | use i ks =>
   rw [qgD] at h ⊢
   cases he : x.get i with
   | none => rw [he] at h; cases h
   | some e => exact qiu (t := .use i ks) (.inl rfl) he hl
  | get i =>
   rw [qhE] at h ⊢
   cases he : x.get i with
   | none => rw [he] at h; cases h
   | some e => exact qiu (t := .get i) (.inr (.inl rfl)) he hl
  | val i =>
   rw [qhF] at h ⊢
   cases he : x.get i with
   | none => rw [he] at h; cases h
   | some e => exact qiu (t := .val i) (.inr (.inr rfl)) he hl
  | put i u =>
   rw [qeJ]
   refine SizeC.of (Ev.of fun n E s => ⟨s, ?_⟩)
   unfold s130 s130_8 s130_7 s130_6 s130_5 s130_4 s130_3 s130_2 s130_1
   simp only [qay, qkS, qpg, hvk, Tm.k_mk, Tm.m_mk, qag, qaq, Int.reduceEq, decide_false, qaa, cond_false, qav, Option.map_some, Option.bind_some]
  | whl u w =>
   rw [qfp]
   refine SizeC.of (Ev.of fun n E s => ⟨s, ?_⟩)
   unfold s130 s130_8 s130_7 s130_6 s130_5 s130_4 s130_3 s130_2 s130_1
   simp only [qay, qkS, qpg, hvk, Tm.k_mk, Tm.m_mk, qag, qaq, Int.reduceEq, decide_false, qaa, cond_false, qav, Option.map_some, Option.bind_some]
  | jmp n =>
   rw [qlY]
   refine SizeC.of (Ev.of fun n E s => ⟨s, ?_⟩)
   unfold s130 s130_8 s130_7 s130_6 s130_5 s130_4 s130_3 s130_2 s130_1
   simp only [qay, qkS, qpg, hvk, Tm.k_mk, Tm.m_mk, qag, qaq, Int.reduceEq, decide_false, qaa, cond_false, qav, Option.map_some, Option.bind_some]
  | hang =>
   rw [qit]
   refine SizeC.of (Ev.of fun n E s => ⟨s, ?_⟩)
   unfold s130 s130_8 s130_7 s130_6 s130_5 s130_4 s130_3 s130_2 s130_1
   simp only [qay, qkS, qpg, hvk, Tm.k_mk, Tm.m_mk, qag, qaq, Int.reduceEq, decide_false, qaa, cond_false, qav, Option.map_some, Option.bind_some]
  | op n m u w =>
   rw [qeK] at h ⊢
   refine SizeC.of (Ev.of fun n' E s => ⟨s, ?_⟩)
   unfold s130 s130_8 s130_7 s130_6 s130_0
   by_cases h1 : n = 1 ∨ n = 2 ∨ n = 3
   ·have h4 : ¬ n = 4 := by omega
    have h5 : ¬ n = 5 := by omega
    simp only [qay, qkS, qjS, qpg, hvk, Tm.k_mk, Tm.m_mk, Tm.n_mk, h1, h4, h5, if_true, qag, qaq, Int.reduceEq, decide_true, decide_false, qaa, cond_true, cond_false, qav, Option.map_some, Option.bind_some]
   ·simp only [h1, if_false] at h
    by_cases h45 : n = 4 ∨ n = 5
    ·simp only [qay, qkS, qjS, qpg, hvk, Tm.k_mk, Tm.m_mk, Tm.n_mk, h1, h45, if_true, if_false, qag, qaq, Int.reduceEq, decide_true, decide_false, qaa, cond_true, cond_false, qav, Option.map_some, Option.bind_some]
     rcases h45 with rfl | rfl <;> rfl
    ·simp only [h45, if_false] at h
     cases h
  | az n u =>
   rw [qeL]
   refine SizeC.of (Ev.of fun n E s => ⟨s, ?_⟩)
   unfold s130 s130_8 s130_7 s130_6
   simp only [qay, qkS, qjS, hvk, Tm.k_mk, Tm.n_mk, qag, qaq, Int.reduceEq, decide_true, decide_false, qaa, cond_true, cond_false, qav, Option.map_some, Option.bind_some]
  | seq u w =>
   rw [qbQ] at h ⊢
   simp only [Bool.and_eq_true] at h
   have hw : w ∈ (Tm.seq u w).ks := by simp [Tm.ks]
   exact qdY (y := x) (w := w) (.inl rfl) (m := 1) rfl (by omega) (qjT x _ w 1 rfl hl (fun h => nomatch h)) (IH w x hw (qm6 hB (qa4 hw)) h.1)
  | ite c u w =>
   rw [qcm] at h ⊢
   simp only [Bool.and_eq_true, decide_eq_true_eq] at h
   have hw : w ∈ (Tm.ite c u w).ks := by simp [Tm.ks]
   have := IH w x hw (qm6 hB (qa4 hw)) h.1.2.1
   rw [h.1.2.2] at this
   exact qdY (y := x) (w := w) (.inr (.inl rfl)) (m := 2) rfl (by omega) (qjT x _ w 2 rfl hl (fun h => nomatch h)) this
  | new n m u =>
   rw [qeM] at h ⊢
   simp only [Bool.and_eq_true] at h
   have hu : u ∈ (Tm.new n m u).ks := by simp [Tm.ks]
   exact qdY (w := u) (.inr (.inr (.inl rfl))) (m := 0) rfl (by omega) (qjT x _ u 0 rfl hl (fun h => nomatch h)) (IH u _ hu (qhD hB (qa4 hu)) h.1)
  | lbl u w =>
   rw [qd6] at h ⊢
   simp only [Bool.and_eq_true, decide_eq_true_eq] at h
   have hw : w ∈ (Tm.lbl u w).ks := by simp [Tm.ks]
   have := IH w x hw (qm6 hB (qa4 hw)) h.2.1
   rw [h.2.2] at this
   exact qdY (y := x) (w := w) (.inr (.inr (.inr (.inl rfl)))) (m := 1) rfl (by omega) (qjT x _ w 1 rfl hl (fun h => nomatch h)) this
  | cho u w =>
   rw [qd7] at h ⊢
   simp only [Bool.and_eq_true, decide_eq_true_eq] at h
   have hw : w ∈ (Tm.cho u w).ks := by simp [Tm.ks]
   have := IH w x hw (qm6 hB (qa4 hw)) h.2.1
   rw [h.2.2] at this
   exact qdY (y := x) (w := w) (.inr (.inr (.inr (.inr (.inl rfl))))) (m := 1) rfl (by omega) (qjT x _ w 1 rfl hl (fun h => nomatch h)) this
  | ntc n i u =>
   rw [qd9] at h ⊢
   simp only [Bool.and_eq_true] at h
   have hu : u ∈ (Tm.ntc n i u).ks := by simp [Tm.ks]
   exact qdY (y := x) (w := u) (.inr (.inr (.inr (.inr (.inr rfl))))) (m := 0) rfl (by omega) (qjT x _ u 0 rfl hl (fun h => nomatch h)) (IH u x hu (qm6 hB (qa4 hu)) h.1)
  | cel i => rw [qfq] at h; cases h
  | obj u w => rw [qd8] at h; cases h
theorem qoo (x : Sc) (t u : Tm) (j : Nat) (hj : t.ks[j]? = some u) (hB : x.B t.size) (h17 : t.k = 17 → j = 1 → ∃ w, t.ks[0]? = some w ∧ (szF x w).2 = true) : PC CP 132 [(vw x t).v, i64 (.ofNat j)] (vw (x.kid t j) u).v := by
 have hl : x.ids.length ≤ 1000000 := by have := hB.1; omega
 refine qjT x t u j hj hl fun k17 hj1 => ?_
 obtain ⟨w, hw, hs⟩ := h17 k17 hj1
 have hm : w ∈ t.ks := List.mem_of_getElem? hw
 have h0 := qjT x t w 0 hw hl (fun _ h => nomatch h)
 have e : vw (x.kid t 0) w = vw x w := by
  have : ¬ t.k = 10 := by omega
  simp only [Sc.kid, this, if_false]
  simp only [k17]
  rfl
 rw [e] at h0
 exact ⟨w, hw, h0, qe7 _ w x (Nat.le_refl _) (qm6 hB (qa4 hm)) hs⟩
end Go.AI.Tryz
namespace Go.AI
def qe8 (o : Option Tm) : AVal := .tuple [(o.getD .z).v, bl o.isSome]
theorem qaw (o : Option Tm) : qe8 o = .tuple [(o.getD .z).v, bl o.isSome] := rfl
theorem qa5 (o : Option Tm) : qaA (qe8 o) = qe8 o := by
 cases o with
 | none => rfl
 | some t =>
  show AVal.tuple [qcj t.v, _] = _
  have : qcj t.v = t.v := by rw [Tm.v_eq]; rfl
  rw [this]; rfl
theorem qbs (lo : Nat) (o : Option Tm) : qd0 lo (qe8 o) = true := by
 cases o with
 | none => rfl
 | some t =>
  show List.all [t.v, bl true] (qha lo) = true
  have : qha lo t.v = true := by rw [Tm.v_eq]; rfl
  simp only [List.all_cons, this]; rfl
theorem qvG (a b : Tm) : ms 2 [.int .u8 0, .int .i64 0, .int .i64 0, .int .i64 0, .sl 0 [], .int .u8 0, .int .i64 0, .int .i64 0, .int .i64 0, .sl 0 []] [(0, some 5, .c a.v), (5, some 5, .c b.v)] = some (.sl 2 (Tm.cellsL [a, b]) .full) := by
 obtain ⟨k, n, m, i, ks⟩ := a
 obtain ⟨k', n', m', i', ks'⟩ := b
 rfl
theorem ms_3 (a b c : Tm) : ms 3 [.int .u8 0, .int .i64 0, .int .i64 0, .int .i64 0, .sl 0 [], .int .u8 0, .int .i64 0, .int .i64 0, .int .i64 0, .sl 0 [], .int .u8 0, .int .i64 0, .int .i64 0, .int .i64 0, .sl 0 []] [(0, some 5, .c a.v), (5, some 5, .c b.v), (10, some 5, .c c.v)] = some (.sl 3 (Tm.cellsL [a, b, c]) .full) := by
 obtain ⟨k, n, m, i, ks⟩ := a
 obtain ⟨k', n', m', i', ks'⟩ := b
 obtain ⟨k'', n'', m'', i'', ks''⟩ := c
 rfl
theorem qrO (a : Tm) : ms 1 [.int .u8 0, .int .i64 0, .int .i64 0, .int .i64 0, .sl 0 []] [(0, some 5, .c a.v)] = some (.sl 1 (Tm.cellsL [a]) .full) := by
 obtain ⟨k, n, m, i, ks⟩ := a
 rfl
end Go.AI
namespace Go.AI.Tryz
theorem vwt (x : Sc) (t : Tm) : (vw x t).t = t := rfl
theorem qsB (x : Sc) (t : Tm) : (vw x t).ar = x.top := rfl
abbrev ev0 : Ev fun _ => True := Ev.of fun _ => trivial
theorem qts (k n m : Int) (l : List Tm) : PC CP 136 [u8 k, i64 n, i64 m, kv l] ((Tm.mk k n m 0 l).v) := by
 refine PC.of2 (cf := cf136) (np := 4) (args' := [u8 k, i64 n, i64 m, kv l]) (by kernel_rfl) (by kernel_rfl) rfl (by first | rfl | (simp only [List.all_cons, qan, qcx]; rfl)) (by first | rfl | (simp only [List.map_cons, qao, qcy]; rfl)) (fun lo => by first | rfl | exact qaV lo _ | exact qbs lo _ | exact qdd lo _ _) (Ev.mono (ev0) fun N _ E s => ⟨(Tm.mk k n m 0 l).v, s, (s136_eq _ _ _ _ _ _ _).trans ?_, (by first | rfl | exact qao _ | exact qa5 _ | exact qcX _ _)⟩)
 unfold s136
 have h : bd [u8 0, i64 0, i64 0, i64 0, .sl 0 [] .full] [(0, none, .c (u8 k)), (1, none, .c (i64 n)), (2, none, .c (i64 m)), (4, none, .c (kv l))] = some (Tm.mk k n m 0 l).v := by rw [Tm.v_eq]; rfl
 simp only [h, qal, qaW, qaC, Option.bind_some]
theorem qmP (k n m : Int) (l : List Tm) (tk : Tk) {n' : Nat} {E : qaJ} (h : ∀ E s, cl (qae CP n' E) 136 [u8 k, i64 n, i64 m, kv l] s = some ((Tm.mk k n m 0 l).v, s)) (s : ASt) : cl (qae CP n' E) 136 [u8 k, i64 n, i64 m, .sl l.length (Tm.cellsL l) tk] s = some ((Tm.mk k n m 0 l).v, s) := by
 rw [qis (cf := cf136) (by kernel_rfl) (by kernel_rfl)]
 exact h E s
theorem qop (a b : Int) : PC CP 128 [i64 a, i64 b] ((Tm.num a b).v) := by
 refine PC.of2 (cf := cf128) (np := 2) (args' := [i64 a, i64 b]) (by kernel_rfl) (by kernel_rfl) rfl (by first | rfl | (simp only [List.all_cons, qan, qcx]; rfl)) (by first | rfl | (simp only [List.map_cons, qao, qcy]; rfl)) (fun lo => by first | rfl | exact qaV lo _ | exact qbs lo _ | exact qdd lo _ _) (Ev.mono (qts 1 a b []) fun N h E s => ⟨(Tm.num a b).v, s, (s128_eq _ _ _ _ _).trans ?_, (by first | rfl | exact qao _ | exact qa5 _ | exact qcX _ _)⟩)
 have h' := qmP (E := E) 1 a b [] .full h s
 simp only [List.length_nil, Tm.cellsL] at h'
 unfold s128
 simp only [h', qal, qaW, qaC, Option.bind_some, qab]
theorem qoq (a b : Tm) : PC CP 141 [a.v, b.v] ((Tm.seq a b).v) := by
 refine PC.of2 (cf := cf141) (np := 2) (args' := [a.v, b.v]) (by kernel_rfl) (by kernel_rfl) rfl (by first | rfl | (simp only [List.all_cons, qan]; rfl)) (by first | rfl | (simp only [List.map_cons, qao]; rfl)) (fun lo => by first | rfl | exact qaV lo _ | exact qbs lo _ | exact qdd lo _ _) (Ev.mono (qts 7 0 0 [a, b]) fun N h E s => ⟨(Tm.seq a b).v, s, (s141_eq _ _ _ _ _).trans ?_, (by first | rfl | exact qao _ | exact qa5 _ | exact qcX _ _)⟩)
 have h' := qmP (E := E) 7 0 0 [a, b] .full h s
 simp only [List.length_cons, List.length_nil, Nat.zero_add, Nat.reduceAdd] at h'
 unfold s141
 simp only [qvG, h', qal, qaW, qaC, Option.bind_some, qab]
theorem qu9 (a : Tm) : PC CP 142 [a.v] ((Tm.az 1 a).v) := by
 refine PC.of2 (cf := cf142) (np := 1) (args' := [a.v]) (by kernel_rfl) (by kernel_rfl) rfl (by first | rfl | (simp only [List.all_cons, qan]; rfl)) (by first | rfl | (simp only [List.map_cons, qao]; rfl)) (fun lo => by first | rfl | exact qaV lo _ | exact qbs lo _ | exact qdd lo _ _) (Ev.mono (qts 6 1 0 [a]) fun N h E s => ⟨(Tm.az 1 a).v, s, (s142_eq _ _ _ _).trans ?_, (by first | rfl | exact qao _ | exact qa5 _ | exact qcX _ _)⟩)
 have h' := qmP (E := E) 6 1 0 [a] .full h s
 simp only [List.length_cons, List.length_nil, Nat.zero_add] at h'
 unfold s142
 simp only [qrO, h', qal, qaW, qaC, Option.bind_some, qab]
def qaO (t : Tm) : Bool := decide (t.k = 1)
def qcr (t : Tm) (n m : Int) : Bool := qaO t && (decide (t.n = n) && decide (t.m = m))
theorem qbE (t : Tm) : PC CP 125 [t.v] (bl (qaO t)) := by
 refine PC.of2 (cf := cf125) (np := 1) (args' := [t.v]) (by kernel_rfl) (by kernel_rfl) rfl (by first | rfl | (simp only [List.all_cons, qan]; rfl)) (by first | rfl | (simp only [List.map_cons, qao]; rfl)) (fun lo => by first | rfl | exact qaV lo _ | exact qbs lo _ | exact qdd lo _ _) (Ev.mono (ev0) fun N _ E s => ⟨bl (qaO t), s, (s125_eq _ _ _ _).trans ?_, (by first | rfl | exact qao _ | exact qa5 _ | exact qcX _ _)⟩)
 unfold s125 qaO
 simp only [qal, qgC, qag, qaq, Option.map_some, Option.bind_some]
theorem qiv (t : Tm) (n0 m0 : Int) : PC CP 143 [t.v, i64 n0, i64 m0] (bl (qcr t n0 m0)) := by
 refine PC.of2 (cf := cf143) (np := 3) (args' := [t.v, i64 n0, i64 m0]) (by kernel_rfl) (by kernel_rfl) rfl (by first | rfl | (simp only [List.all_cons, qan]; rfl)) (by first | rfl | (simp only [List.map_cons, qao]; rfl)) (fun lo => by first | rfl | exact qaV lo _ | exact qbs lo _ | exact qdd lo _ _) (Ev.mono (qbE t) fun N h E s => ⟨bl (qcr t n0 m0), s, (s143_eq _ _ _ _ _ _).trans ?_, (by first | rfl | exact qao _ | exact qa5 _ | exact qcX _ _)⟩)
 unfold s143 s143_0 qcr
 simp only [h, qal, qaW, qsx, qvF, qag, qaq, qaa, qav, Option.map_some, Option.bind_some, qab]
 cases qaO t <;> cases decide (t.n = n0) <;> rfl
theorem qcW (x : Vw) (k : Int) : PC CP 124 [x.v, u8 k] (bl (decide (x.t.k = k))) := by
 refine PC.of2 (cf := cf124) (np := 2) (args' := [x.v, u8 k]) (by kernel_rfl) (by kernel_rfl) rfl (by first | rfl | (simp only [List.all_cons, qan, qcx]; rfl)) (by first | rfl | (simp only [List.map_cons, qao, qcy]; rfl)) (fun lo => by first | rfl | exact qaV lo _ | exact qbs lo _ | exact qdd lo _ _) (Ev.mono (ev0) fun N _ E s => ⟨bl (decide (x.t.k = k)), s, (s124_eq _ _ _ _ _).trans ?_, (by first | rfl | exact qao _ | exact qa5 _ | exact qcX _ _)⟩)
 unfold s124
 simp only [qay, qkS, qag, qaq, Option.map_some, Option.bind_some]
theorem qrP (b : Bool) : PC CP 138 [bl b] (i64 (cond b 1 0)) := by
 refine PC.of2 (cf := cf138) (np := 1) (args' := [bl b]) (by kernel_rfl) (by kernel_rfl) rfl (by first | rfl | (simp only [List.all_cons, qan, qcx]; rfl)) (by first | rfl | (simp only [List.map_cons, qao, qcy]; rfl)) (fun lo => by first | rfl | exact qaV lo _ | exact qbs lo _ | exact qdd lo _ _) (Ev.mono (ev0) fun N _ E s => ⟨i64 (cond b 1 0), s, (s138_eq _ _ _ _).trans ?_, (by first | rfl | exact qao _ | exact qa5 _ | exact qcX _ _)⟩)
 unfold s138
 cases b <;> rfl
theorem nothing_c : PC CP 98 [] (qe8 none) := by
 refine PC.of2 (cf := cf98) (np := 0) (args' := []) (by kernel_rfl) (by kernel_rfl) rfl (by first | rfl | (simp only [List.all_cons, qan, qcx]; rfl)) (by first | rfl | (simp only [List.map_cons, qao, qcy]; rfl)) (fun lo => by first | rfl | exact qaV lo _ | exact qbs lo _ | exact qdd lo _ _) (Ev.mono (ev0) fun N _ E s => ⟨.tuple [.agg [u8 0, i64 0, i64 0, i64 0, .sl 0 [] .full], bl false], s, (s98_eq _ _ _).trans ?_, (by first | rfl | exact qao _ | exact qa5 _ | exact qcX _ _)⟩)
 rfl
theorem qe9 (x : Vw) (u : Tm) (hu : x.t.ks[0]? = some u) : PC CP 133 [x.v] (u.v) := by
 refine PC.of2 (cf := cf133) (np := 1) (args' := [x.v]) (by kernel_rfl) (by kernel_rfl) rfl (by first | rfl | (simp only [List.all_cons, qan, qcx]; rfl)) (by first | rfl | (simp only [List.map_cons, qao, qcy]; rfl)) (fun lo => by first | rfl | exact qaV lo _ | exact qbs lo _ | exact qdd lo _ _) (Ev.mono (ev0) fun N _ E s => ⟨u.v, s, (s133_eq _ _ _ _).trans ?_, (by first | rfl | exact qao _ | exact qa5 _ | exact qcX _ _)⟩)
 obtain ⟨i0, l0⟩ := qcT (n := N) (E := E) hu
 unfold s133
 simp only [i0, l0, qal, qaW, qaC, qay, qbV, Option.bind_some, qab]
theorem qlZ (x : Vw) (u : Tm) (hu : x.t.ks[1]? = some u) : PC CP 145 [x.v] (u.v) := by
 refine PC.of2 (cf := cf145) (np := 1) (args' := [x.v]) (by kernel_rfl) (by kernel_rfl) rfl (by first | rfl | (simp only [List.all_cons, qan, qcx]; rfl)) (by first | rfl | (simp only [List.map_cons, qao, qcy]; rfl)) (fun lo => by first | rfl | exact qaV lo _ | exact qbs lo _ | exact qdd lo _ _) (Ev.mono (ev0) fun N _ E s => ⟨u.v, s, (s145_eq _ _ _ _).trans ?_, (by first | rfl | exact qao _ | exact qa5 _ | exact qcX _ _)⟩)
 obtain ⟨i0, l0⟩ := qfR (n := N) (E := E) hu
 unfold s145
 simp only [i0, l0, qal, qaW, qaC, qay, qbV, Option.bind_some, qab]
theorem qtt (b : Bool) (f : Nat) (C : qaJ → ASt → Prop) (hC : Stab C) (t : Tm) (h : b = true → Ev fun n => ∀ E s, C E s → clv (qae CP n E) (.p (.func f [] [])) [] s = some (t.v, s)) : RCn CP 126 [bl b, .p (.func f [] [])] C (qe8 (if b then some t else none)) := by
 refine RCn.of (cf := cf126) (np := 2) (args' := [bl b, .p (.func f [] [])]) (by kernel_rfl) (by kernel_rfl) rfl rfl rfl hC (fun lo => qbs lo _) ?_
 cases b with
 | false =>
  refine nothing_c.mono fun n h E s _ _ _ => ⟨_, s, (s126_eq _ _ _ _ _).trans ?_, qa5 _⟩
  unfold s126
  have e : qe8 none = .tuple [Tm.z.v, bl false] := rfl
  simp only [h, e, qal, qaW, qaC, Bool.not_false, qaa, cond_true, Option.bind_some, qab, qah, qar, qas, qau, qaw]
  rfl
 | true =>
  refine (h rfl).mono fun n h E s _ _ hc => ⟨_, s, (s126_eq _ _ _ _ _).trans ?_, qa5 _⟩
  unfold s126
  simp only [h E s hc, qal, qaW, qaC, Bool.not_true, qaa, cond_false, Option.bind_some, qab, qau, qaw]
  rfl
end Go.AI.Tryz
namespace Go.AI.Tryz
open Classical
theorem qrQ (az bs : List Tm) (h1 : az.length ≤ maxLen) (h2 : bs.length ≤ maxLen) (h : ∀ a ∈ az, ∀ b ∈ bs, PC CP 139 [a.v, b.v] (bl (decide (a = b)))) : PC CP 185 [kv az, kv bs, .p (.func 139 [] [])] (bl (decide (az = bs))) := by
 have hev : Ev fun n => ∀ a ∈ az, ∀ b ∈ bs, ∀ E s, cl (qae CP n E) 139 [a.v, b.v] s = some (bl (decide (a = b)), s) := Ev.all az fun a ha => Ev.all bs fun b hb => h a ha b hb
 rw [qbF] at h1 h2
 refine PC.of2 (cf := cf185) (np := 3) (args' := [kv az, kv bs, .p (.func 139 [] [])]) (by kernel_rfl) (by kernel_rfl) rfl rfl rfl (fun _ => rfl) ((hev.and (Ev.ge (az.length + 1))).mono fun n ⟨hn, hm⟩ E s => ⟨bl (decide (az = bs)), s, (s185_eq _ _ _ _ _ _).trans ?_, rfl⟩)
 unfold s185
 simp only [qag, qbm, qaa, Option.map_some, Option.bind_some, qcV]
 by_cases hlen : az.length = bs.length
 ·have hd : decide (Int.ofNat az.length = Int.ofNat bs.length) = true := by simp only [hlen, decide_true]
  simp only [hd, Bool.not_true, cond_false]
  unfold s185_0
  generalize hF : (fun (h14 : AVal → Nat → Nat → List AVal → List AVal → ASt → Res) (x8 : AVal) (g9 g10 : Nat) (c11 c12 : List AVal) (s13 : ASt) => _) = F
  have key : ∀ k (j g g' : Nat) (c c' : List AVal), j ≤ az.length → az.length - j < k → lp (fun _ _ _ _ _ _ => none) F k (i64 (.ofNat j)) g g' c c' s = some (bl (decide (az.drop j = bs.drop j)), s) := by
   intro k
   induction k with
   | zero => intro j g g' c c' _ h; omega
   | succ k ih =>
    intro j g g' c c' hj hk
    rw [qa9]
    generalize lp _ _ k = L at ih ⊢
    subst hF
    rcases Nat.lt_or_ge j az.length with h | h
    ·have hb : j < bs.length := by omega
     have ka : az[j]? = some az[j] := List.getElem?_eq_getElem h
     have kb : bs[j]? = some bs[j] := List.getElem?_eq_getElem hb
     have ia : iaV 5 (kv az) (i64 (.ofNat j)) = some (Tm.cellsL az, j * 5) := Tm.ia_kid h
     have ib : iaV 5 (kv bs) (i64 (.ofNat j)) = some (Tm.cellsL bs, j * 5) := Tm.ia_kid hb
     have la : ∀ s, ldH (qae CP n E) s (.elem (Tm.cellsL az) (j * 5)) (some 5) = some az[j].v := fun s => Tm.ld_kid _ _ ka
     have lb : ∀ s, ldH (qae CP n E) s (.elem (Tm.cellsL bs) (j * 5)) (some 5) = some bs[j].v := fun s => Tm.ld_kid _ _ kb
     have hc := hn az[j] (List.getElem_mem h) bs[j] (List.getElem_mem hb) E s
     rw [List.drop_eq_getElem_cons h, List.drop_eq_getElem_cons hb]
     simp only [of_lt.2 h, ia, ib, la, lb, Nat.beq_refl, qeI CP (show 1 ≤ n by omega), hc, qa7 (show j < 9223372036854775807 by omega), qal, qaW, qaC, qag, qaE, qaH, decide_true, qaa, cond_true, Option.map_some, Option.bind_some, qab, qau, cnd]
     by_cases he : az[j] = bs[j]
     ·simp only [he, decide_true, Bool.not_true, cond_false, List.cons.injEq, true_and]
      exact ih _ _ _ _ _ (by omega) (by omega)
     ·simp only [he, decide_false, Bool.not_false, cond_true, List.cons.injEq, false_and]
    ·have hje : j = az.length := by omega
     subst hje
     have h3 : ¬ (Int.ofNat az.length < Int.ofNat az.length) := fun h => Nat.lt_irrefl _ (of_lt.1 h)
     have d1 : az.drop az.length = [] := List.drop_length
     have d2 : bs.drop az.length = [] := by rw [hlen, List.drop_length]
     simp only [h3, d1, d2, qag, qaE, qaH, decide_true, decide_false, qaa, cond_false, Option.map_some, Option.bind_some, cnd]
  exact key n 0 0 0 [] [] (Nat.zero_le _) (by omega)
 ·have hd : decide (Int.ofNat az.length = Int.ofNat bs.length) = false := by simp only [Int.ofNat_eq_natCast, decide_eq_false_iff_not]; omega
  have hne : az ≠ bs := fun h => hlen (by rw [h])
  simp only [hd, hne, decide_false, Bool.not_false, cond_true]
theorem qiw (a : Tm) : ∀ (b : Tm), a.Ok → b.Ok → PC CP 139 [a.v, b.v] (bl (decide (a = b))) := by
 induction a using Tm.ind with
 | h k n m i ks ih =>
  intro b ha hb
  have hkids := qrQ ks b.ks ha.len hb.len fun x hx y hy => ih x hx y (ha.kids x hx) (hb.kids y hy)
  obtain ⟨k', n', m', i', ks'⟩ := b
  refine PC.of2 (cf := cf139) (np := 2) (args' := [(Tm.mk k n m i ks).v, (Tm.mk k' n' m' i' ks').v]) (by kernel_rfl) (by kernel_rfl) rfl (by simp only [List.all_cons, qan]; rfl) (by simp only [List.map_cons, qao]; rfl) (fun _ => rfl) (hkids.mono fun n0 h E s => ⟨bl (decide (Tm.mk k n m i ks = Tm.mk k' n' m' i' ks')), s, (s139_eq _ _ _ _ _).trans ?_, rfl⟩)
  unfold s139 s139_0
  have hd : decide (Tm.mk k n m i ks = Tm.mk k' n' m' i' ks') = (decide (k = k') && (decide (n = n') && (decide (m = m') && (decide (i = i') && decide (ks = ks'))))) := by
   simp only [Tm.mk.injEq, Bool.decide_and]
  simp only [Tm.ks] at h
  rw [hd]
  simp only [Tm.k, Tm.n, Tm.m, Tm.i, Tm.ks, h, qal, qgC, qsx, qvF, qkR, qp3, qag, qaq, qaa, qav, Option.map_some, Option.bind_some, qab]
  cases decide (k = k') <;> cases decide (n = n') <;> cases decide (m = m') <;> cases decide (i = i') <;> rfl
end Go.AI.Tryz
namespace Go.AI.Tryz
def IC {ι : Type} (f : Nat) (args : ι → List AVal) (C : ι → qaJ → ASt → Prop) (r : AVal) : Prop := Ev fun n => ∀ p E s, C p E s → cl (qae CP n E) f (args p) s = some (r, s)
theorem IC.of {ι : Type} {f np : Nat} {cf : CF} {args args' : ι → List AVal} {C : ι → qaJ → ASt → Prop} {r' : AVal} (hcf : CP f = some cf) (hfl : flP cf np = true) (hl : ∀ p, (args p).length = np) (ha : ∀ p, (args p).all qbj = true) (hargs : ∀ p, (args p).map qaA = args' p) (hC : ∀ p, Stab (C p))
  (hpl : ∀ lo, qd0 lo r' = true) (hb : Ev fun n => ∀ p E s, C p E s → ∃ r s', qat cf (qae CP n E) n (args' p) s = some (r, s') ∧ qaA r = r') : IC f args C r' := by
 refine Ev.succ (hb.mono fun n h p E s hc => ?_)
 obtain ⟨r, s', h, hv⟩ := h p (s.heap ++ E) { s with heap := [], toks := [] } (hC p E s hc)
 rw [qbL]
 exact qgq hcf hfl (hl p) (ha p) (hargs p) h hv (hpl _)
abbrev C1 (cs : List AVal) : Nat → qaJ → ASt → Prop := fun l E s => qaj E s l = some cs
abbrev C2 (cs ds : List AVal) : Nat × Nat → qaJ → ASt → Prop := fun l E s => qaj E s l.1 = some cs ∧ qaj E s l.2 = some ds
theorem qcE {ι : Type} (b : Bool) (f : Nat) (l : ι → List AVal) (hl : ∀ p, (l p).all qpi = true) (C : ι → qaJ → ASt → Prop) (hC : ∀ p, Stab (C p)) (t : Tm) (h : b = true → IC f l C t.v) : IC 126 (fun p => [bl b, .func f [] (l p)]) C (qe8 (if b then some t else none)) := by
 refine IC.of (cf := cf126) (np := 2) (args' := fun p => [bl b, .func f [] (l p)]) (by kernel_rfl) (by kernel_rfl) (fun _ => rfl) (fun p => by simp only [List.all_cons, qbj, qaK, hl p]; rfl) (fun _ => rfl) hC (fun lo => qbs lo _) ?_
 cases b with
 | false =>
  refine nothing_c.mono fun n h p E s _ => ⟨_, s, (s126_eq _ _ _ _ _).trans ?_, qa5 _⟩
  unfold s126
  have e : qe8 none = .tuple [Tm.z.v, bl false] := rfl
  simp only [h, e, qal, qaW, qaC, Bool.not_false, qaa, cond_true, Option.bind_some, qab, qah, qar, qas, qau, qaw]
  rfl
 | true =>
  refine ((h rfl).and (Ev.ge 1)).mono fun n ⟨h, hn⟩ p E s hc => ⟨_, s, (s126_eq _ _ _ _ _).trans ?_, qa5 _⟩
  unfold s126
  have hcl := h p E s hc
  simp only [qg7 CP hn, List.nil_append, hcl, qal, qaW, qaC, Bool.not_true, qaa, cond_false, Option.bind_some, qab, qau, qaw]
  rfl
def _root_.Go.AI.Vw.p (x : Vw) : PVal := .agg [.int .u8 x.t.k, .int .i64 x.t.n, .int .i64 x.t.m, .int .i64 x.t.i, .sl x.t.ks.length (Tm.cellsL x.t.ks), .sl x.sz.length (qaU qeT x.sz), .int .i64 x.ar]
theorem qkU (f : Nat) (x : Vw) : mf f [x.v] [] = some (.p (.func f [x.p] [])) := rfl
theorem qva {n : Nat} (hn : 1 ≤ n) (E : qaJ) (f : Nat) (x : Vw) (args : List AVal) (s : ASt) : clv (qae CP n E) (.p (.func f [x.p] [])) args s = cl (qae CP n E) f (x.v :: args) s := by
 obtain ⟨m, rfl⟩ : ∃ m, n = m + 1 := ⟨n - 1, by omega⟩
 rw [qgr, qeo, qbL]
 simp only [List.map_cons, List.map_nil, List.append_nil, List.cons_append, List.nil_append]
 rfl
theorem qcO (b : Bool) (f : Nat) (x : Vw) (t : Tm) (h : b = true → PC CP f [x.v] t.v) : PC CP 126 [bl b, .p (.func f [x.p] [])] (qe8 (if b then some t else none)) := by
 refine PC.of2 (cf := cf126) (np := 2) (args' := [bl b, .p (.func f [x.p] [])]) (by kernel_rfl) (by kernel_rfl) rfl rfl rfl (fun lo => qbs lo _) ?_
 cases b with
 | false =>
  refine nothing_c.mono fun n h E s => ⟨_, s, (s126_eq _ _ _ _ _).trans ?_, qa5 _⟩
  unfold s126
  have e : qe8 none = .tuple [Tm.z.v, bl false] := rfl
  simp only [h, e, qal, qaW, qaC, Bool.not_false, qaa, cond_true, Option.bind_some, qab, qah, qar, qas, qau, qaw]
  rfl
 | true =>
  refine ((h rfl).and (Ev.ge 1)).mono fun n ⟨h, hn⟩ E s => ⟨_, s, (s126_eq _ _ _ _ _).trans ?_, qa5 _⟩
  unfold s126
  simp only [qva hn, h E s, qal, qaW, qaC, Bool.not_true, qaa, cond_false, Option.bind_some, qab, qau, qaw]
  rfl
theorem qix (n : Nat) (E : qaJ) (f : Nat) : (qae CP n E).pure f = qcA CP f := by cases n <;> rfl
theorem qfS (js : List (Nat × Nat)) (h : js.all (fun x => Nat.blt 1 x.2 && qcA CP (x.2 - 2)) = true) (n : Nat) (E : qaJ) (tr : TrL) (l o k : Nat) : okV (qae CP n E) tr (.ptr l o) k js = true := by
 unfold okV
 rw [List.all_eq_true] at h ⊢
 intro x hx
 unfold okJ
 rw [qix, h x hx]
 rfl
abbrev RuC (f : Nat) (x : Sc) (t : Tm) (o : Option Tm) : Prop := PC CP f [(vw x t).v] (qe8 o)
theorem RuC.of {f : Nat} {cf : CF} {x : Sc} {t : Tm} {o : Option Tm} (hcf : CP f = some cf) (hfl : flP cf 1 = true) (hb : Ev fun n => ∀ E s, ∃ s', qat cf (qae CP n E) n [(vw x t).v] s = some (qe8 o, s')) : RuC f x t o := by
 refine PC.of2 (cf := cf) (np := 1) (args' := [(vw x t).v]) hcf hfl rfl rfl rfl (fun lo => qbs lo _) (hb.mono fun n h E s => ?_)
 obtain ⟨s', e⟩ := h E s
 exact ⟨_, s', e, qa5 _⟩
theorem kf {n : Nat} {E : qaJ} {l : List Tm} {u : Tm} {j : Nat} (h : l[j]? = some u) (s : ASt) : ldH (qae CP n E) s (.elem (Tm.cellsL l) (j * 5)) none = some (u8 u.k) ∧ ldH (qae CP n E) s (.elem (Tm.cellsL l) (j * 5 + 1)) none = some (i64 u.n) ∧ ldH (qae CP n E) s (.elem (Tm.cellsL l) (j * 5 + 4)) none = some (kv u.ks) := by
 refine ⟨?_, ?_, ?_⟩
 ·have := Tm.ld_field (qae CP n E) s h 0 (by omega)
  rw [Nat.add_zero] at this
  rw [this]; cases u; rfl
 ·rw [Tm.ld_field (qae CP n E) s h 1 (by omega)]; cases u; rfl
 ·rw [Tm.ld_field (qae CP n E) s h 4 (by omega)]; cases u; rfl
def asR (t : Tm) : Option Tm := if t.k = 6 then (match t.ks with | [u] => if qaO u then some (.num (u.n.tmod t.n) t.n) else none | _ => none) else none
theorem qvb (x : Sc) (n0 : Int) (u : Tm) (hn : n0 ≠ 0) : IC 131 (fun l => [.ptr l 0]) (C1 (vw x (.az n0 u)).c) (Tm.num (u.n.tmod n0) n0).v := by
 refine IC.of (cf := cf131) (np := 1) (args' := fun l => [.ptr l 0]) (by kernel_rfl) (by kernel_rfl) (fun _ => rfl) (fun _ => rfl) (fun _ => rfl) (fun l => Stab.at l _) (fun _ => rfl) ((qop (u.n.tmod n0) n0).mono fun N h l E s hc => ⟨(Tm.num (u.n.tmod n0) n0).v, s, (s131_eq _ _ _ _).trans ?_, rfl⟩)
 have hk : [u][0]? = some u := rfl
 obtain ⟨i0, l0⟩ := qcT (n := N) (E := E) hk
 have hf := fun s => (kf (n := N) (E := E) hk s).2.1
 have hc' : qaj (qae CP N E).E s l = some (vw x (.az n0 u)).c := by rw [qaQ]; exact hc
 unfold s131
 simp only [ldP hc', Nat.zero_add, i0, hf, qgw _ _ _ hn, h, qal, qaW, qaC, qjS, qbV, vwt, qag, Option.map_some, Option.bind_some, qab, qbH, Tm.n_mk, Tm.ks_mk]
theorem as_c (x : Sc) (t : Tm) (h : Sh t) (hn : t.k = 6 → t.n ≠ 0) : RuC 73 x t (asR t) := by
 by_cases hk : t.k = 6
 ·cases h with
  | az n0 u =>
   have e : asR (.az n0 u) = if qaO u then some (.num (u.n.tmod n0) n0) else none := rfl
   rw [e]
   refine RuC.of (cf := cf73) (by kernel_rfl) (by kernel_rfl) (((qcW (vw x (.az n0 u)) 6).and ((qbE u).and (qcE (qaO u) 131 (fun l => [.ptr l 0]) (fun _ => rfl) (C1 (vw x (.az n0 u)).c) (fun l => Stab.at l _) _ fun _ => qvb x n0 u (hn rfl)))).mono fun N ⟨h1, h2, h3⟩ E s => ?_)
   obtain ⟨i0, l0⟩ := qcT (n := N) (E := E) (l := [u]) (u := u) rfl
   have hw := fun (s : ASt) => h3 s.next E (qaf s (.cells (vw x (.az n0 u)).c)) (qaI _ _ _)
   refine ⟨qaf s (.cells (vw x (.az n0 u)).c), (s73_eq _ _ _ _).trans ?_⟩
   unfold s73 s73_0
   simp only [h1, i0, l0, h2, hw, qal, qaW, qaC, qay, qbR, qbV, qcI, vwt, decide_true, qaa, cond_true, qav, Option.bind_some, qab, qah, qar, qas, qaS, qbg, cnd, qci, Tm.k_mk, Tm.ks_mk, qaw]
  | _ => simp only [Tm.k] at hk; omega
 ·have e : asR t = none := by unfold asR; rw [if_neg hk]
  rw [e]
  refine RuC.of (cf := cf73) (by kernel_rfl) (by kernel_rfl) (((qcW (vw x t) 6).and (qcE false 131 (fun l => [.ptr l 0]) (fun _ => rfl) (C1 (vw x t).c) (fun l => Stab.at l _) .z fun h => nomatch h)).mono fun N ⟨h1, h3⟩ E s => ?_)
  have hw := fun (s : ASt) => h3 s.next E (qaf s (.cells (vw x t).c)) (qaI _ _ _)
  refine ⟨qaf s (.cells (vw x t).c), (s73_eq _ _ _ _).trans ?_⟩
  unfold s73 s73_0
  simp only [h1, hw, hk, Bool.false_eq_true, if_false, qal, qaW, qaC, qay, qbR, qbV, qcI, vwt, decide_false, qaa, cond_false, qav, Option.bind_some, qab, qah, qar, qas, qaS, qbg, cnd, qci, qaw, Option.getD_none, Option.isSome_none]
end Go.AI.Tryz
namespace Go.AI.Tryz
open Classical
structure Gd (x : Sc) (t : Tm) : Prop where
 sh : Sh t
 b : x.B t.size
 sz : t.k ≠ 16 → t.k ≠ 17 → (szF x t).2 = true
 ok : t.Ok
theorem Gd.l {x : Sc} {t : Tm} (g : Gd x t) : x.ids.length ≤ 1000000 := by have := g.b.1; omega
theorem isSize_iff {n : Int} : qby n = true ↔ 1 ≤ n ∧ n ≤ 64 := by
 simp only [qby, Bool.and_eq_true, Bool.not_eq_true', decide_eq_false_iff_not]; omega
theorem isBelow_iff {n m : Int} : qbw n m = true ↔ 0 ≤ n ∧ n < m := by
 simp only [qbw, Bool.and_eq_true, Bool.not_eq_true', decide_eq_false_iff_not, decide_eq_true_eq]; omega
theorem qfa {t : Tm} (h : Sh t) (hn : qaO t = true) : ∃ n m, t = .num n m := by
 have hk : t.k = 1 := by simpa [qaO] using hn
 cases h with
 | num n m => exact ⟨n, m, rfl⟩
 | _ => simp only [Tm.k_mk] at hk; omega
theorem qdO {x : Sc} {t : Tm} (h : (szF x t).2 = true) (hn : qaO t = true) : 0 ≤ t.n ∧ t.n < t.m ∧ t.m ≤ 64 ∧ (szF x t).1 = t.m := by
 obtain ⟨n, m, rfl⟩ := qfa (qdq h) hn
 rw [qdx] at h ⊢
 simp only [Bool.and_eq_true, isSize_iff, isBelow_iff] at h
 exact ⟨h.2.1, h.2.2, h.1.2, rfl⟩
def ql0 (n m a b : Int) : Int := if n = 1 then (a + b).tmod m else if n = 2 then (a - b + m).tmod m else if n = 3 then (a * b).tmod m else if n = 4 then cond (decide (a = b)) 1 0 else cond (decide (a < b)) 1 0
theorem qp5 (n m a b : Int) (hm : 1 ≤ m ∧ m ≤ 64) (ha : 0 ≤ a ∧ a < 64) (hb : 0 ≤ b ∧ b < 64) : PC CP 129 [i64 n, i64 m, i64 a, i64 b] (i64 (ql0 n m a b)) := by
 refine PC.of2 (cf := cf129) (np := 4) (args' := [i64 n, i64 m, i64 a, i64 b]) (by kernel_rfl) (by kernel_rfl) rfl rfl rfl (fun _ => rfl) (((qrP (decide (a = b))).and (qrP (decide (a < b)))).mono fun N ⟨h1, h2⟩ E s => ⟨i64 (ql0 n m a b), s, (s129_eq _ _ _ _ _ _ _).trans ?_, rfl⟩)
 have hm0 : m ≠ 0 := by omega
 have hab : 0 ≤ a * b ∧ a * b < 4096 := by
  obtain ⟨ha1, ha2⟩ := ha
  obtain ⟨hb1, hb2⟩ := hb
  refine ⟨Int.mul_nonneg ha1 hb1, ?_⟩
  have : a * b ≤ 63 * 63 := Int.mul_le_mul (by omega) (by omega) hb1 (by omega)
  omega
 have w1 : qa8 .i64 (a + b) = a + b := qbT (by omega) (by omega)
 have w2 : qa8 .i64 (a - b) = a - b := qbT (by omega) (by omega)
 have w3 : qa8 .i64 (a - b + m) = a - b + m := qbT (by omega) (by omega)
 have w4 : qa8 .i64 (a * b) = a * b := qbT (by omega) (by omega)
 unfold s129 ql0
 by_cases n1 : n = 1
 ·simp only [n1, if_true, w1, qgw _ _ _ hm0, qag, qaq, qaE, qaH, qbP, Int.reduceEq, decide_true, decide_false, qaa, cond_true, cond_false, Option.map_some, Option.bind_some]
 ·by_cases n2 : n = 2
  ·simp only [n2, if_true, if_false, w2, w3, qgw _ _ _ hm0, qag, qaq, qaE, qaH, qbP, Int.reduceEq, decide_true, decide_false, qaa, cond_true, cond_false, Option.map_some, Option.bind_some]
  ·by_cases n3 : n = 3
   ·simp only [n3, if_true, if_false, qrz, w4, qgw _ _ _ hm0, qag, qaq, qaE, qaH, qbP, Int.reduceEq, decide_true, decide_false, qaa, cond_true, cond_false, Option.map_some, Option.bind_some]
   ·by_cases n4 : n = 4
    ·simp only [n4, if_true, if_false, h1, qag, qaq, qaE, qaH, qbP, Int.reduceEq, decide_true, decide_false, qaa, cond_true, cond_false, Option.map_some, Option.bind_some, qab]
    ·simp only [n1, n2, n3, n4, if_false, h2, qag, qaq, qaE, qaH, qbP, decide_false, qaa, cond_false, Option.map_some, Option.bind_some, qab]
def opR (x : Sc) (t : Tm) : Option Tm := if t.k = 5 then (match t.ks with | [a, b] => if qaO a && qaO b then some (.num (ql0 t.n t.m a.n b.n) (szF x t).1) else none | _ => none) else none
theorem qvc (x : Sc) (n m : Int) (a b : Tm) (g : Gd x (.op n m a b)) (ha : qaO a = true) (hb : qaO b = true) : IC 127 (fun l => [.ptr l 0]) (C1 (vw x (.op n m a b)).c) (Tm.num (ql0 n m a.n b.n) (szF x (.op n m a b)).1).v := by
 have hsz := g.sz (by simp [Tm.k]) (by simp [Tm.k])
 have hs2 := hsz
 rw [qeK] at hs2
 have hin : qby m = true ∧ is2 (szF x a) m = true ∧ is2 (szF x b) m = true := by
  split at hs2
  ·simpa only [Bool.and_eq_true] using hs2
  ·split at hs2
   ·simpa only [Bool.and_eq_true] using hs2
   ·cases hs2
 obtain ⟨h1, h2, h3⟩ := hin
 rw [is2_iff] at h2 h3
 have ra := qdO (x := x) (by rw [h2]) ha
 have rb := qdO (x := x) (by rw [h3]) hb
 rw [h2] at ra
 rw [h3] at rb
 rw [isSize_iff] at h1
 refine IC.of (cf := cf127) (np := 1) (args' := fun l => [.ptr l 0]) (by kernel_rfl) (by kernel_rfl) (fun _ => rfl) (fun _ => rfl) (fun _ => rfl) (fun l => Stab.at l _) (fun _ => rfl) (((qp5 n m a.n b.n h1 (by omega) (by omega)).and ((qe7 _ _ x (Nat.le_refl _) g.b hsz).and (qop (ql0 n m a.n b.n) (szF x (.op n m a b)).1))).mono fun N ⟨h1, h2, h3⟩ l E s hc => ⟨(Tm.num (ql0 n m a.n b.n) (szF x (.op n m a b)).1).v, s, (s127_eq _ _ _ _).trans ?_, rfl⟩)
 obtain ⟨i0, l0⟩ := qcT (n := N) (E := E) (l := [a, b]) (u := a) rfl
 obtain ⟨i1, l1⟩ := qfR (n := N) (E := E) (l := [a, b]) (u := b) rfl
 have f0 := fun s => (kf (n := N) (E := E) (l := [a, b]) (j := 0) (u := a) rfl s).2.1
 have f1 := fun s => (kf (n := N) (E := E) (l := [a, b]) (j := 1) (u := b) rfl s).2.1
 have hc' : qaj (qae CP N E).E s l = some (vw x (.op n m a b)).c := by rw [qaQ]; exact hc
 unfold s127
 simp only [ldP hc', Nat.zero_add, i0, f0, i1, f1, h1, h2, h3, qfS [(18, 131)] (by kernel_rfl), Bool.and_self, qal, qaW, qaC, qbR, qjS, qpg, qbV, vwt, Option.bind_some, qab, qbH, cnd, Tm.n_mk, Tm.m_mk, Tm.ks_mk]
theorem op_c (x : Sc) (t : Tm) (g : Gd x t) : RuC 72 x t (opR x t) := by
 by_cases hk : t.k = 5
 ·cases g.sh with
  | op n m a b =>
   have e : opR x (.op n m a b) = if qaO a && qaO b then some (.num (ql0 n m a.n b.n) (szF x (.op n m a b)).1) else none := rfl
   rw [e]
   refine RuC.of (cf := cf72) (by kernel_rfl) (by kernel_rfl) (((qcW (vw x (.op n m a b)) 5).and ((qbE a).and ((qbE b).and (qcE (qaO a && qaO b) 127 (fun l => [.ptr l 0]) (fun _ => rfl) (C1 (vw x (.op n m a b)).c) (fun l => Stab.at l _) _ fun h => qvc x n m a b g (by simp only [Bool.and_eq_true] at h; exact h.1) (by simp only [Bool.and_eq_true] at h; exact h.2))))).mono fun N ⟨h1, h2, h3, h4⟩ E s => ?_)
   obtain ⟨i0, l0⟩ := qcT (n := N) (E := E) (l := [a, b]) (u := a) rfl
   obtain ⟨i1, l1⟩ := qfR (n := N) (E := E) (l := [a, b]) (u := b) rfl
   have hw := fun (s : ASt) => h4 s.next E (qaf s (.cells (vw x (.op n m a b)).c)) (qaI _ _ _)
   refine ⟨qaf s (.cells (vw x (.op n m a b)).c), (s72_eq _ _ _ _).trans ?_⟩
   unfold s72 s72_0
   clear e
   generalize qaO a = qa at h2 hw ⊢
   cases qa <;> simp only [Bool.true_and, Bool.false_and] at hw <;> simp only [h1, i0, l0, i1, l1, h2, h3, hw, Bool.true_and, Bool.false_and, qal, qaW, qaC, qay, qbR, qbV, qcI, vwt, decide_true, qaa, cond_true, cond_false, qav, Option.bind_some, qab, qah, qar, qas, qaS, qbg, cnd, qci, Tm.k_mk, Tm.ks_mk, qaw]
  | _ => simp only [Tm.k_mk] at hk; omega
 ·have e : opR x t = none := by unfold opR; rw [if_neg hk]
  rw [e]
  refine RuC.of (cf := cf72) (by kernel_rfl) (by kernel_rfl) (((qcW (vw x t) 5).and (qcE false 127 (fun l => [.ptr l 0]) (fun _ => rfl) (C1 (vw x t).c) (fun l => Stab.at l _) .z fun h => nomatch h)).mono fun N ⟨h1, h3⟩ E s => ?_)
  have hw := fun (s : ASt) => h3 s.next E (qaf s (.cells (vw x t).c)) (qaI _ _ _)
  refine ⟨qaf s (.cells (vw x t).c), (s72_eq _ _ _ _).trans ?_⟩
  unfold s72 s72_0
  simp only [h1, hw, hk, Bool.false_eq_true, if_false, qal, qaW, qaC, qay, qbR, qbV, qcI, vwt, decide_false, qaa, cond_false, qav, Option.bind_some, qab, qah, qar, qas, qaS, qbg, cnd, qci, qaw, Option.getD_none, Option.isSome_none]
def qkV (x : Sc) (t : Tm) : Option Tm := if t.k = 6 then (match t.ks with | [u] => if !qaO u && decide ((szF x u).1 = t.n) then some u else none | _ => none) else none
theorem qrR (x : Sc) (t : Tm) (g : Gd x t) : RuC 74 x t (qkV x t) := by
 by_cases hk : t.k = 6
 ·cases g.sh with
  | az n0 u =>
   have e : qkV x (.az n0 u) = if !qaO u && decide ((szF x u).1 = n0) then some u else none := rfl
   rw [e]
   have hsz := g.sz (by simp [Tm.k]) (by simp [Tm.k])
   rw [qeL, Bool.and_eq_true] at hsz
   have hlt : u.size < (Tm.az n0 u).size := qa4 (by simp [Tm.ks])
   refine RuC.of (cf := cf74) (by kernel_rfl) (by kernel_rfl) (((qcW (vw x (.az n0 u)) 6).and ((qbE u).and ((qcO (!qaO u && decide ((szF x u).1 = n0)) 133 (vw x (.az n0 u)) u fun _ => qe9 _ u rfl).and ((qoo x (.az n0 u) u 0 rfl g.b (fun h => nomatch h)).and (qe7 _ u x (Nat.le_refl _) (qm6 g.b hlt) hsz.1))))).mono fun N ⟨h1, h2, h3, h4, h5⟩ E s => ?_)
   obtain ⟨i0, l0⟩ := qcT (n := N) (E := E) (l := [u]) (u := u) rfl
   have h4' : ∀ E s, cl (qae CP N E) 132 [(vw x (.az n0 u)).v, i64 0] s = some ((vw x u).v, s) := h4
   refine ⟨s, (s74_eq _ _ _ _).trans ?_⟩
   unfold s74 s74_0
   clear e
   generalize qaO u = qa at h2 h3 ⊢
   cases qa <;> simp only [Bool.not_true, Bool.not_false, Bool.true_and, Bool.false_and] at h3 <;> simp only [h1, i0, l0, h2, h3, h4', h5, qkU, Bool.true_and, Bool.false_and, qal, qaW, qaC, qay, qbR, qjS, qbV, vwt, qag, qaq, decide_true, Bool.not_true, Bool.not_false, qaa, cond_true, cond_false, qav, Option.map_some, Option.bind_some, qab, qah, qar, qas, qau, Tm.k_mk, Tm.n_mk, Tm.ks_mk, qaw]
  | _ => simp only [Tm.k_mk] at hk; omega
 ·have e : qkV x t = none := by unfold qkV; rw [if_neg hk]
  rw [e]
  refine RuC.of (cf := cf74) (by kernel_rfl) (by kernel_rfl) (((qcW (vw x t) 6).and (qcO false 133 (vw x t) .z fun h => nomatch h)).mono fun N ⟨h1, h3⟩ E s => ?_)
  refine ⟨s, (s74_eq _ _ _ _).trans ?_⟩
  unfold s74 s74_0
  simp only [h1, h3, qkU, hk, Bool.false_eq_true, if_false, qal, qaW, qaC, qay, qbR, qjS, qbV, vwt, decide_false, qaa, cond_false, qav, Option.bind_some, qab, qah, qar, qas, qaw, Option.getD_none, Option.isSome_none]
end Go.AI.Tryz
namespace Go.AI
def qea : List (PVal × PVal) := [(.int .i64 1, .int .i64 0), (.int .i64 2, .int .i64 0), (.int .i64 3, .int .i64 1)]
def qkW (n : Int) : Option Int := if n = 1 then some 0 else if n = 2 then some 0 else if n = 3 then some 1 else none
theorem qsC {e : Env} {s : ASt} {k y : Int} {es es' : List (PVal × PVal)} (hp : qff es (.int .i64 k) (.int .i64 y) = some es') : ins e 1 (.map s.next) (i64 k) (i64 y) (qbY s es) = some (qai, qbY s es') := by
 unfold ins stV qbY
 have hy : AVal.pureW (i64 y) = some (.int .i64 y) := rfl
 simp only [qaB, Arg.ev, qam, qaF, Nat.beq_refl, cond_true, qc7, hy, hp, Option.bind_some, Option.map_some]
theorem qqN (e : Env) (s : ASt) : mkm e s = some (.map s.next, qbY s []) := rfl
theorem qp6 (n : Int) : qc3 qea (.int .i64 n) = some ((qkW n).map (PVal.int .i64)) := by
 have h : ∀ k, qq2 (.int .i64 n) (.int .i64 k) = some (decide (n = k)) := by
  intro k
  show some (ieq n k) = _
  rw [qb9]
 unfold qea qkW
 simp only [qc3, h, Option.bind_some]
 by_cases h1 : n = 1
 ·simp only [h1, decide_true, cond_true, if_true]; rfl
 ·by_cases h2 : n = 2
  ·simp only [h2, Int.reduceEq, decide_true, decide_false, cond_true, cond_false, if_true, if_false]; rfl
  ·by_cases h3 : n = 3
   ·simp only [h3, Int.reduceEq, decide_true, decide_false, cond_true, cond_false, if_true, if_false]; rfl
   ·simp only [h1, h2, h3, decide_false, cond_false, if_false]; rfl
theorem qqO {e : Env} {s : ASt} {n : Int} : lk e 1 (i64 0) true (.map s.next) (i64 n) (qbY s qea) = some (.tuple [i64 ((qkW n).getD 0), bl (qkW n).isSome], qbY s qea) := by
 unfold lk stV
 have hm : qcn e.E (qbY s qea) s.next = some qea := qgB _ _ _
 simp only [qaB, Arg.ev, hm, Option.bind_some, qc7, cond_true, qp6]
 cases qkW n <;> rfl
end Go.AI
namespace Go.AI.Tryz
open Classical
def qdr (t : Tm) : Option Tm := if t.k = 5 then (match t.ks with | [a, b] => if (qkW t.n).isSome && (!qaO a && (qaO b && decide (b.n = (qkW t.n).getD 0))) then some a else none | _ => none) else none
theorem qor (x : Sc) (t : Tm) (g : Gd x t) : RuC 75 x t (qdr t) := by
 by_cases hk : t.k = 5
 ·cases g.sh with
  | op n m a b =>
   have e : qdr (.op n m a b) = if (qkW n).isSome && (!qaO a && (qaO b && decide (b.n = (qkW n).getD 0))) then some a else none := rfl
   rw [e]
   refine RuC.of (cf := cf75) (by kernel_rfl) (by kernel_rfl) (((qcW (vw x (.op n m a b)) 5).and ((qbE a).and ((qbE b).and (qcO ((qkW n).isSome && (!qaO a && (qaO b && decide (b.n = (qkW n).getD 0)))) 133 (vw x (.op n m a b)) a fun _ => qe9 _ a rfl)))).mono fun N ⟨h1, h2, h3, hw⟩ E s => ?_)
   obtain ⟨i0, l0⟩ := qcT (n := N) (E := E) (l := [a, b]) (u := a) rfl
   obtain ⟨i1, l1⟩ := qfR (n := N) (E := E) (l := [a, b]) (u := b) rfl
   have f1 := fun s => (kf (n := N) (E := E) (l := [a, b]) (j := 1) (u := b) rfl s).2.1
   have e1 : ins (qae CP N E) 1 (.map s.next) (i64 1) (i64 0) (qbY s []) = some (qai, qbY s [(.int .i64 1, .int .i64 0)]) := qsC rfl
   have e2 : ins (qae CP N E) 1 (.map s.next) (i64 2) (i64 0) (qbY s [(.int .i64 1, .int .i64 0)]) = some (qai, qbY s [(.int .i64 1, .int .i64 0), (.int .i64 2, .int .i64 0)]) := qsC rfl
   have e3 : ins (qae CP N E) 1 (.map s.next) (i64 3) (i64 1) (qbY s [(.int .i64 1, .int .i64 0), (.int .i64 2, .int .i64 0)]) = some (qai, qbY s qea) := qsC rfl
   refine ⟨qbY s qea, (s75_eq _ _ _ _).trans ?_⟩
   clear e
   unfold s75 s75_0
   generalize qaO a = qa at h2 hw ⊢
   generalize qaO b = qb at h3 hw ⊢
   cases hq : (qkW n).isSome <;> cases qa <;> cases qb <;> simp only [hq, Bool.not_true, Bool.not_false, Bool.true_and, Bool.false_and] at hw <;> simp only [qqN, e1, e2, e3, qqO, hq, h1, i0, l0, i1, l1, f1, h2, h3, hw, qkU, Bool.true_and, Bool.false_and, Bool.not_true, Bool.not_false, qal, qaW, qaC, qay, qbR, qjS, qbV, vwt, qag, qaq, decide_true, Bool.not_true, Bool.not_false, qaa, cond_true, cond_false, qav, Option.map_some, Option.bind_some, qab, qah, qar, qas, qau, Tm.k_mk, Tm.n_mk, Tm.ks_mk, qaw]
  | _ => simp only [Tm.k_mk] at hk; omega
 ·have e : qdr t = none := by unfold qdr; rw [if_neg hk]
  rw [e]
  refine RuC.of (cf := cf75) (by kernel_rfl) (by kernel_rfl) (((qcW (vw x t) 5).and (qcO false 133 (vw x t) .z fun h => nomatch h)).mono fun N ⟨h1, hw⟩ E s => ?_)
  have e1 : ins (qae CP N E) 1 (.map s.next) (i64 1) (i64 0) (qbY s []) = some (qai, qbY s [(.int .i64 1, .int .i64 0)]) := qsC rfl
  have e2 : ins (qae CP N E) 1 (.map s.next) (i64 2) (i64 0) (qbY s [(.int .i64 1, .int .i64 0)]) = some (qai, qbY s [(.int .i64 1, .int .i64 0), (.int .i64 2, .int .i64 0)]) := qsC rfl
  have e3 : ins (qae CP N E) 1 (.map s.next) (i64 3) (i64 1) (qbY s [(.int .i64 1, .int .i64 0), (.int .i64 2, .int .i64 0)]) = some (qai, qbY s qea) := qsC rfl
  refine ⟨qbY s qea, (s75_eq _ _ _ _).trans ?_⟩
  unfold s75 s75_0
  simp only [qqN, e1, e2, e3, qqO, h1, hw, hk, qkU, Bool.false_eq_true, if_false, qal, qaW, qaC, qay, qbR, qjS, qbV, vwt, decide_false, qaa, cond_false, qav, Option.bind_some, qab, qah, qar, qas, qaw, Option.getD_none, Option.isSome_none]
theorem qrS (l : List Int) (hl : l.length ≤ 1000000) (a : Int) : PC CP 184 [iv l, i64 a] (i64 (qbv (fun b => decide (a = b)) l 0)) := by
 refine PC.of2 (cf := cf184) (np := 2) (args' := [iv l, i64 a]) (by kernel_rfl) (by kernel_rfl) rfl rfl rfl (fun _ => rfl) ((Ev.ge (l.length + 1)).mono fun n hm E s => ⟨i64 (qbv (fun b => decide (a = b)) l 0), s, (s184_eq _ _ _ _ _).trans ?_, rfl⟩)
 unfold s184 s184_0
 simp only [Option.bind_some, qcV]
 generalize hF : (fun (h5 : AVal → Res) (x4 : AVal) => _) = F
 refine qfn _ F l.length (fun j L => L (i64 (.ofNat j))) (fun j => some (i64 (qbv (fun b => decide (a = b)) l j), s)) (fun j L hj ih => ?_) (fun L => ?_) n 0 (Nat.zero_le _) (by omega)
 ·subst hF
  have hk : l[j]? = some l[j] := List.getElem?_eq_getElem hj
  have hia : iaV 1 (iv l) (i64 (.ofNat j)) = some (qaU qeT l, j * 1) := qcY (c := qeT) (sz := 1) hj
  have hld := qkK (c := qeT) (sz := 1) (fun _ => rfl) (qae CP n E) s hk (by omega)
  simp only [of_lt.2 hj, hia, hld, qa7 (show j < 9223372036854775807 by omega), qag, qaE, qaH, decide_true, qaa, cond_true, Option.map_some, Option.bind_some, qab]
  have hx : (qeT l[j])[0]? = some (.int .i64 l[j]) := rfl
  simp only [hx, qag, qaq, qaa, Option.map_some, Option.bind_some]
  have hdr : l.drop j = l[j] :: l.drop (j + 1) := List.drop_eq_getElem_cons hj
  by_cases h : a = l[j]
  ·have : qbv (fun b => decide (a = b)) l j = .ofNat j := by
    unfold qbv
    rw [hdr, List.findIdx?_cons]
    simp only [← h, decide_true, if_true, Nat.add_zero]
   simp only [← h, this, decide_true, cond_true]
  ·have : qbv (fun b => decide (a = b)) l j = qbv (fun b => decide (a = b)) l (j + 1) := by
    unfold qbv
    rw [hdr, List.findIdx?_cons]
    simp only [h, decide_false, Bool.false_eq_true, if_false]
    cases (l.drop (j + 1)).findIdx? (fun b => decide (a = b)) with
    | none => rfl
    | some i => simp only [Option.map_some, Int.ofNat_eq_natCast]; omega
   simp only [h, this, decide_false, cond_false]
   exact ih
 ·subst hF
  have h3 : ¬ (Int.ofNat l.length < Int.ofNat l.length) := fun h => Nat.lt_irrefl _ (of_lt.1 h)
  simp only [h3, qag, qaE, qaH, decide_false, qaa, cond_false, Option.map_some, Option.bind_some]
  have : qbv (fun b => decide (a = b)) l l.length = -1 := by
   unfold qbv
   rw [List.drop_length]; rfl
  rw [this]
theorem qmQ (l : List Int) (hl : l.length ≤ 1000000) (a : Int) : PC CP 134 [iv l, i64 a] (bl (l.any fun b => decide (a = b))) := by
 refine PC.of2 (cf := cf134) (np := 2) (args' := [iv l, i64 a]) (by kernel_rfl) (by kernel_rfl) rfl (by first | rfl | (simp only [List.all_cons, qan, qcx]; rfl)) (by first | rfl | (simp only [List.map_cons, qao, qcy]; rfl)) (fun lo => by first | rfl | exact qaV lo _ | exact qbs lo _ | exact qdd lo _ _) (Ev.mono (qrS l hl a) fun N h E s => ⟨bl (l.any fun b => decide (a = b)), s, (s134_eq _ _ _ _ _).trans ?_, (by first | rfl | exact qao _ | exact qa5 _ | exact qcX _ _)⟩)
 unfold s134
 have := qe6 (qkL (fun b => decide (a = b)) l)
 simp only [h, ge1, this, qag, Option.map_some, Option.bind_some, qab]
def qkX (t : Tm) : Option Tm := if t.k = 5 then (match t.ks with | [a, b] => if (decide (t.n = 1) || (decide (t.n = 3) || decide (t.n = 4))) && (qaO a && !qaO b) then some (.op t.n t.m b a) else none | _ => none) else none
theorem qrT (x : Sc) (n m : Int) (a b : Tm) : IC 135 (fun l => [.ptr l 0]) (C1 (vw x (.op n m a b)).c) (Tm.op n m b a).v := by
 refine IC.of (cf := cf135) (np := 1) (args' := fun l => [.ptr l 0]) (by kernel_rfl) (by kernel_rfl) (fun _ => rfl) (fun _ => rfl) (fun _ => rfl) (fun l => Stab.at l _) (fun _ => rfl) ((qts 5 n m [b, a]).mono fun N h l E s hc => ⟨(Tm.op n m b a).v, s, (s135_eq _ _ _ _).trans ?_, rfl⟩)
 have h' := qmP (E := E) 5 n m [b, a] .full h s
 simp only [List.length_cons, List.length_nil, Nat.zero_add, Nat.reduceAdd] at h'
 obtain ⟨i0, l0⟩ := qcT (n := N) (E := E) (l := [a, b]) (u := a) rfl
 obtain ⟨i1, l1⟩ := qfR (n := N) (E := E) (l := [a, b]) (u := b) rfl
 have hc' : qaj (qae CP N E).E s l = some (vw x (.op n m a b)).c := by rw [qaQ]; exact hc
 unfold s135
 simp only [ldP hc', Nat.zero_add, i0, l0, i1, l1, qvG, h', qal, qaW, qaC, qjS, qpg, qbV, vwt, Option.bind_some, qab, qbH, Tm.n_mk, Tm.m_mk, Tm.ks_mk]
theorem qtu (x : Sc) (t : Tm) (g : Gd x t) : RuC 76 x t (qkX t) := by
 by_cases hk : t.k = 5
 ·cases g.sh with
  | op n m a b =>
   have e : qkX (.op n m a b) = if (decide (n = 1) || (decide (n = 3) || decide (n = 4))) && (qaO a && !qaO b) then some (.op n m b a) else none := rfl
   rw [e]
   refine RuC.of (cf := cf76) (by kernel_rfl) (by kernel_rfl) (((qcW (vw x (.op n m a b)) 5).and ((qbE a).and ((qbE b).and ((qmQ [1, 3, 4] (by simp) n).and (qcE ((decide (n = 1) || (decide (n = 3) || decide (n = 4))) && (qaO a && !qaO b)) 135 (fun l => [.ptr l 0]) (fun _ => rfl) (C1 (vw x (.op n m a b)).c) (fun l => Stab.at l _) _ fun h => qrT x n m a b))))).mono fun N ⟨h1, h2, h3, h5, h4⟩ E s => ?_)
   obtain ⟨i0, l0⟩ := qcT (n := N) (E := E) (l := [a, b]) (u := a) rfl
   obtain ⟨i1, l1⟩ := qfR (n := N) (E := E) (l := [a, b]) (u := b) rfl
   have hw := fun (s : ASt) => h4 s.next E (qaf s (.cells (vw x (.op n m a b)).c)) (qaI _ _ _)
   have hms : ms 3 [.int .i64 0, .int .i64 0, .int .i64 0] [(0, none, .c (i64 1)), (1, none, .c (i64 3)), (2, none, .c (i64 4))] = some (.sl 3 [.int .i64 1, .int .i64 3, .int .i64 4] .full) := rfl
   have hct : ∀ s, cl (qae CP N E) 134 [.sl 3 [.int .i64 1, .int .i64 3, .int .i64 4] .full, i64 n] s = some (bl (decide (n = 1) || (decide (n = 3) || decide (n = 4))), s) := by
    intro s
    rw [qis (cf := cf134) (by kernel_rfl) (by kernel_rfl)]
    have := h5 E s
    simp only [List.any_cons, List.any_nil, Bool.or_false] at this
    exact this
   refine ⟨qaf s (.cells (vw x (.op n m a b)).c), (s76_eq _ _ _ _).trans ?_⟩
   unfold s76 s76_0
   clear e
   generalize (decide (n = 1) || (decide (n = 3) || decide (n = 4))) = q at hct hw ⊢
   generalize qaO a = qa at h2 hw ⊢
   generalize qaO b = qb at h3 hw ⊢
   cases q <;> cases qa <;> cases qb <;> simp only [Bool.true_and, Bool.false_and, Bool.not_true, Bool.not_false] at hw <;> simp only [h1, hms, hct, i0, l0, i1, l1, h2, h3, hw, Bool.true_and, Bool.false_and, qal, qaW, qaC, qay, qbR, qjS, qbV, qcI, vwt, decide_true, Bool.not_true, Bool.not_false, qaa, cond_true, cond_false, qav, Option.bind_some, qab, qah, qar, qas, qau, qaS, qbg, cnd, qci, Tm.k_mk, Tm.n_mk, Tm.ks_mk, qaw]
  | _ => simp only [Tm.k_mk] at hk; omega
 ·have e : qkX t = none := by unfold qkX; rw [if_neg hk]
  rw [e]
  refine RuC.of (cf := cf76) (by kernel_rfl) (by kernel_rfl) (((qcW (vw x t) 5).and (qcE false 135 (fun l => [.ptr l 0]) (fun _ => rfl) (C1 (vw x t).c) (fun l => Stab.at l _) .z fun h => nomatch h)).mono fun N ⟨h1, h3⟩ E s => ?_)
  have hw := fun (s : ASt) => h3 s.next E (qaf s (.cells (vw x t).c)) (qaI _ _ _)
  refine ⟨qaf s (.cells (vw x t).c), (s76_eq _ _ _ _).trans ?_⟩
  unfold s76 s76_0
  simp only [h1, hw, hk, Bool.false_eq_true, if_false, qal, qaW, qaC, qay, qbR, qjS, qcI, vwt, decide_false, qaa, cond_false, qav, Option.bind_some, qab, qah, qar, qas, qaS, qbg, cnd, qci, qaw, Option.getD_none, Option.isSome_none]
def ifR (t : Tm) : Option Tm := if t.k = 8 then (match t.ks with | [c, a, b] => if qaO c then some (if c.n = 0 then b else a) else none | _ => none) else none
theorem qvd (x : Sc) (c a b : Tm) : IC 137 (fun l => [.ptr l 0]) (C1 (vw x (.ite c a b)).c) (if c.n = 0 then b else a).v := by
 refine IC.of (cf := cf137) (np := 1) (args' := fun l => [.ptr l 0]) (by kernel_rfl) (by kernel_rfl) (fun _ => rfl) (fun _ => rfl) (fun _ => rfl) (fun l => Stab.at l _) (fun lo => qaV lo _) ((qrP (decide (c.n = 0))).mono fun N h l E s hc => ⟨(if c.n = 0 then b else a).v, s, (s137_eq _ _ _ _).trans ?_, qao _⟩)
 obtain ⟨i0, l0⟩ := qcT (n := N) (E := E) (l := [c, a, b]) (u := c) rfl
 obtain ⟨i1, l1⟩ := qfR (n := N) (E := E) (l := [c, a, b]) (u := a) rfl
 obtain ⟨i2, l2⟩ := qsw (n := N) (E := E) (l := [c, a, b]) (u := b) rfl
 have f0 := fun s => (kf (n := N) (E := E) (l := [c, a, b]) (j := 0) (u := c) rfl s).2.1
 have hc' : qaj (qae CP N E).E s l = some (vw x (.ite c a b)).c := by rw [qaQ]; exact hc
 have w1 : qa8 .i64 (1 + 1) = 2 := rfl
 have w0 : qa8 .i64 (1 + 0) = 1 := rfl
 unfold s137
 by_cases hz : c.n = 0
 ·simp only [hz, decide_true, cond_true] at h
  simp only [ldP hc', Nat.zero_add, i0, f0, hz, h, if_true, w1, i2, l2, qfS [(10, 140)] (by kernel_rfl), Bool.and_self, qal, qaW, qaC, qbV, vwt, qag, qaq, qaH, decide_true, Option.map_some, Option.bind_some, qab, qbH, cnd, Tm.ks_mk]
 ·simp only [hz, decide_false, cond_false] at h
  simp only [ldP hc', Nat.zero_add, i0, f0, hz, h, if_false, w0, i1, l1, qfS [(10, 140)] (by kernel_rfl), Bool.and_self, qal, qaW, qaC, qbV, vwt, qag, qaq, qaH, decide_false, Option.map_some, Option.bind_some, qab, qbH, cnd, Tm.ks_mk]
theorem if_c (x : Sc) (t : Tm) (g : Gd x t) : RuC 77 x t (ifR t) := by
 by_cases hk : t.k = 8
 ·cases g.sh with
  | ite c a b =>
   have e : ifR (.ite c a b) = if qaO c then some (if c.n = 0 then b else a) else none := rfl
   rw [e]
   refine RuC.of (cf := cf77) (by kernel_rfl) (by kernel_rfl) (((qcW (vw x (.ite c a b)) 8).and ((qbE c).and (qcE (qaO c) 137 (fun l => [.ptr l 0]) (fun _ => rfl) (C1 (vw x (.ite c a b)).c) (fun l => Stab.at l _) _ fun h => qvd x c a b))).mono fun N ⟨h1, h2, h4⟩ E s => ?_)
   obtain ⟨i0, l0⟩ := qcT (n := N) (E := E) (l := [c, a, b]) (u := c) rfl
   have hw := fun (s : ASt) => h4 s.next E (qaf s (.cells (vw x (.ite c a b)).c)) (qaI _ _ _)
   refine ⟨qaf s (.cells (vw x (.ite c a b)).c), (s77_eq _ _ _ _).trans ?_⟩
   unfold s77 s77_0
   clear e
   simp only [h1, i0, l0, h2, hw, qal, qaW, qaC, qay, qbR, qbV, qcI, vwt, decide_true, qaa, cond_true, qav, Option.bind_some, qab, qah, qar, qas, qaS, qbg, cnd, qci, Tm.k_mk, Tm.ks_mk, qaw]
  | _ => simp only [Tm.k_mk] at hk; omega
 ·have e : ifR t = none := by unfold ifR; rw [if_neg hk]
  rw [e]
  refine RuC.of (cf := cf77) (by kernel_rfl) (by kernel_rfl) (((qcW (vw x t) 8).and (qcE false 137 (fun l => [.ptr l 0]) (fun _ => rfl) (C1 (vw x t).c) (fun l => Stab.at l _) .z fun h => nomatch h)).mono fun N ⟨h1, h3⟩ E s => ?_)
  have hw := fun (s : ASt) => h3 s.next E (qaf s (.cells (vw x t).c)) (qaI _ _ _)
  refine ⟨qaf s (.cells (vw x t).c), (s77_eq _ _ _ _).trans ?_⟩
  unfold s77 s77_0
  simp only [h1, hw, hk, Bool.false_eq_true, if_false, qal, qaW, qaC, qay, qbR, qbV, qcI, vwt, decide_false, qaa, cond_false, qav, Option.bind_some, qab, qah, qar, qas, qaS, qbg, cnd, qci, qaw, Option.getD_none, Option.isSome_none]
def qkY (t : Tm) : Option Tm := if t.k = 8 then (match t.ks with | [c, a, b] => if !qaO c && decide (a = b) then some (.seq (.az 1 c) a) else none | _ => none) else none
theorem qrU (x : Sc) (c a b : Tm) : IC 140 (fun l => [.ptr l 0]) (C1 (vw x (.ite c a b)).c) (Tm.seq (.az 1 c) a).v := by
 refine IC.of (cf := cf140) (np := 1) (args' := fun l => [.ptr l 0]) (by kernel_rfl) (by kernel_rfl) (fun _ => rfl) (fun _ => rfl) (fun _ => rfl) (fun l => Stab.at l _) (fun lo => qaV lo _) (((qu9 c).and (qoq (.az 1 c) a)).mono fun N ⟨h, h2⟩ l E s hc => ⟨(Tm.seq (.az 1 c) a).v, s, (s140_eq _ _ _ _).trans ?_, qao _⟩)
 obtain ⟨i0, l0⟩ := qcT (n := N) (E := E) (l := [c, a, b]) (u := c) rfl
 obtain ⟨i1, l1⟩ := qfR (n := N) (E := E) (l := [c, a, b]) (u := a) rfl
 have hc' : qaj (qae CP N E).E s l = some (vw x (.ite c a b)).c := by rw [qaQ]; exact hc
 unfold s140
 simp only [ldP hc', Nat.zero_add, i0, l0, h, h2, i1, l1, qfS [(5, 144)] (by kernel_rfl), Bool.and_self, qal, qaW, qaC, qbV, vwt, Option.bind_some, qab, qbH, cnd, Tm.ks_mk]
theorem qrV (x : Sc) (t : Tm) (g : Gd x t) : RuC 78 x t (qkY t) := by
 by_cases hk : t.k = 8
 ·cases g.sh with
  | ite c a b =>
   have e : qkY (.ite c a b) = if !qaO c && decide (a = b) then some (.seq (.az 1 c) a) else none := rfl
   rw [e]
   have oa := g.ok.kids a (by simp [Tm.ks])
   have ob := g.ok.kids b (by simp [Tm.ks])
   refine RuC.of (cf := cf78) (by kernel_rfl) (by kernel_rfl) (((qcW (vw x (.ite c a b)) 8).and ((qbE c).and ((qiw a b oa ob).and (qcE (!qaO c && decide (a = b)) 140 (fun l => [.ptr l 0]) (fun _ => rfl) (C1 (vw x (.ite c a b)).c) (fun l => Stab.at l _) _ fun h => qrU x c a b)))).mono fun N ⟨h1, h2, h3, h4⟩ E s => ?_)
   obtain ⟨i0, l0⟩ := qcT (n := N) (E := E) (l := [c, a, b]) (u := c) rfl
   obtain ⟨i1, l1⟩ := qfR (n := N) (E := E) (l := [c, a, b]) (u := a) rfl
   obtain ⟨i2, l2⟩ := qsw (n := N) (E := E) (l := [c, a, b]) (u := b) rfl
   have hw := fun (s : ASt) => h4 s.next E (qaf s (.cells (vw x (.ite c a b)).c)) (qaI _ _ _)
   refine ⟨qaf s (.cells (vw x (.ite c a b)).c), (s78_eq _ _ _ _).trans ?_⟩
   unfold s78 s78_0
   clear e
   generalize qaO c = qa at h2 hw ⊢
   cases qa <;> simp only [Bool.true_and, Bool.false_and, Bool.not_true, Bool.not_false] at hw <;> simp only [h1, i0, l0, i1, l1, i2, l2, h2, h3, hw, Bool.true_and, Bool.false_and, qal, qaW, qaC, qay, qbR, qbV, qcI, vwt, decide_true, Bool.not_true, Bool.not_false, qaa, cond_true, cond_false, qav, Option.bind_some, qab, qah, qar, qas, qau, qaS, qbg, cnd, qci, Tm.k_mk, Tm.ks_mk, qaw]
  | _ => simp only [Tm.k_mk] at hk; omega
 ·have e : qkY t = none := by unfold qkY; rw [if_neg hk]
  rw [e]
  refine RuC.of (cf := cf78) (by kernel_rfl) (by kernel_rfl) (((qcW (vw x t) 8).and (qcE false 140 (fun l => [.ptr l 0]) (fun _ => rfl) (C1 (vw x t).c) (fun l => Stab.at l _) .z fun h => nomatch h)).mono fun N ⟨h1, h3⟩ E s => ?_)
  have hw := fun (s : ASt) => h3 s.next E (qaf s (.cells (vw x t).c)) (qaI _ _ _)
  refine ⟨qaf s (.cells (vw x t).c), (s78_eq _ _ _ _).trans ?_⟩
  unfold s78 s78_0
  simp only [h1, hw, hk, Bool.false_eq_true, if_false, qal, qaW, qaC, qay, qbR, qbV, qcI, vwt, decide_false, qaa, cond_false, qav, Option.bind_some, qab, qah, qar, qas, qaS, qbg, cnd, qci, qaw, Option.getD_none, Option.isSome_none]
end Go.AI.Tryz
namespace Go.AI.Tryz
def qp7 (t : Tm) : Option Tm := if t.k = 8 then (match t.ks with | [c, a, b] => if c.k = 8 then (match c.ks with | [p, q, r] => if qcr q 0 2 && qcr r 1 2 then some (.ite p b a) else none | _ => none) else none | _ => none) else none
theorem qtv (x : Sc) (c a b p q r : Tm) : IC 144 (fun l => [.ptr l.1 0, .ptr l.2 0]) (C2 [kv [p, q, r]] (vw x (.ite c a b)).c) (Tm.ite p b a).v := by
 refine IC.of (cf := cf144) (np := 2) (args' := fun l => [.ptr l.1 0, .ptr l.2 0]) (by kernel_rfl) (by kernel_rfl) (fun _ => rfl) (fun _ => rfl) (fun _ => rfl) (fun l => (Stab.at l.1 _).and (Stab.at l.2 _)) (fun lo => qaV lo _) ((qts 8 0 0 [p, b, a]).mono fun N h l E s hc => ⟨(Tm.ite p b a).v, s, (s144_eq _ _ _ _ _).trans ?_, qao _⟩)
 have h' := qmP (E := E) 8 0 0 [p, b, a] .full h s
 simp only [List.length_cons, List.length_nil, Nat.zero_add, Nat.reduceAdd] at h'
 obtain ⟨i0, l0⟩ := qcT (n := N) (E := E) (l := [p, q, r]) (u := p) rfl
 obtain ⟨i1, l1⟩ := qfR (n := N) (E := E) (l := [c, a, b]) (u := a) rfl
 obtain ⟨i2, l2⟩ := qsw (n := N) (E := E) (l := [c, a, b]) (u := b) rfl
 have hc1 : qaj (qae CP N E).E s l.1 = some [kv [p, q, r]] := by rw [qaQ]; exact hc.1
 have hc2 : qaj (qae CP N E).E s l.2 = some (vw x (.ite c a b)).c := by rw [qaQ]; exact hc.2
 unfold s144
 simp only [ldP hc1, ldP hc2, qb4, Nat.zero_add, i0, l0, i1, l1, i2, l2, ms_3, h', qal, qaW, qaC, qbV, vwt, Option.bind_some, qab, qbH, Tm.ks_mk]
theorem qve (x : Sc) (t : Tm) (g : Gd x t) : RuC 79 x t (qp7 t) := by
 by_cases hk : t.k = 8
 ·cases g.sh with
  | ite c a b =>
   have hsz := g.sz (by simp [Tm.k]) (by simp [Tm.k])
   rw [qcm, Bool.and_eq_true] at hsz
   obtain ⟨i0, l0⟩ : True ∧ True := ⟨trivial, trivial⟩
   by_cases hc8 : c.k = 8
   ·have hc := qdq hsz.2
    cases hc with
    | ite p q r =>
     have e : qp7 (.ite (.ite p q r) a b) = if qcr q 0 2 && qcr r 1 2 then some (.ite p b a) else none := rfl
     rw [e]
     refine RuC.of (cf := cf79) (by kernel_rfl) (by kernel_rfl) (((qcW (vw x (.ite (.ite p q r) a b)) 8).and ((qiv q 0 2).and ((qiv r 1 2).and (qcE (qcr q 0 2 && qcr r 1 2) 144 (fun l : Nat × Nat => [.ptr l.1 0, .ptr l.2 0]) (fun _ => rfl) (C2 [kv [p, q, r]] (vw x (.ite (.ite p q r) a b)).c) (fun l => (Stab.at l.1 _).and (Stab.at l.2 _)) _ fun h => qtv x (.ite p q r) a b p q r)))).mono fun N ⟨h1, h2, h3, h4⟩ E s => ?_)
     obtain ⟨i0, l0⟩ := qcT (n := N) (E := E) (l := [.ite p q r, a, b]) (u := .ite p q r) rfl
     have f0 := fun s => kf (n := N) (E := E) (l := [.ite p q r, a, b]) (j := 0) (u := .ite p q r) rfl s
     have f00 := fun s => (f0 s).1
     have f04 := fun s => (f0 s).2.2
     obtain ⟨i1, l1⟩ := qfR (n := N) (E := E) (l := [p, q, r]) (u := q) rfl
     obtain ⟨i2, l2⟩ := qsw (n := N) (E := E) (l := [p, q, r]) (u := r) rfl
     let s4 := qaf s (.cells (vw x (.ite (.ite p q r) a b)).c)
     have hw := h4 (s4.next, s.next) E (qaf s4 (.cells [kv [p, q, r]])) ⟨qaI _ _ _, qc0 _ _ _ _⟩
     have hst : stH (qaf s4 (.cells [.sl 0 [] .full])) (.ptr s4.next 0) [kv [p, q, r]] = some (qaf s4 (.cells [kv [p, q, r]])) := qg8 _ _ _ _ _ rfl rfl
     simp only [s4] at hw hst
     refine ⟨qaf s4 (.cells [kv [p, q, r]]), (s79_eq _ _ _ _).trans ?_⟩
     unfold s79 s79_1 s79_0
     clear e
     generalize qcr q 0 2 = qa at h2 hw ⊢
     generalize qcr r 1 2 = qb at h3 hw ⊢
     cases qa <;> cases qb <;> simp only [Bool.true_and, Bool.false_and] at hw <;> simp only [h1, i0, f00, f04, hst, i1, l1, i2, l2, h2, h3, hw, qb4, Bool.true_and, Bool.false_and, s4, qal, qaW, qaC, qay, qbR, qbV, qcI, vwt, qag, qbm, decide_true, Bool.not_true, qaa, cond_true, cond_false, qav, Option.map_some, Option.bind_some, qab, qah, qar, qas, qau, qaS, qbg, cnd, qci, qp4, Tm.k_mk, Tm.ks_mk, qaw]
    | _ => simp only [Tm.k_mk] at hc8; omega
   ·have e : qp7 (.ite c a b) = none := by simp only [qp7, Tm.k_mk, Tm.ks_mk, if_true, hc8, if_false]
    rw [e]
    refine RuC.of (cf := cf79) (by kernel_rfl) (by kernel_rfl) (((qcW (vw x (.ite c a b)) 8).and nothing_c).mono fun N ⟨h1, h3⟩ E s => ?_)
    obtain ⟨i0, l0⟩ := qcT (n := N) (E := E) (l := [c, a, b]) (u := c) rfl
    have f00 := fun s => (kf (n := N) (E := E) (l := [c, a, b]) (j := 0) (u := c) rfl s).1
    refine ⟨qaf s (.cells (vw x (.ite c a b)).c), (s79_eq _ _ _ _).trans ?_⟩
    unfold s79 s79_1
    simp only [h1, h3, i0, f00, hc8, qal, qaW, qaC, qay, qbR, qbV, qcI, vwt, qag, qbm, decide_true, decide_false, Bool.not_true, Bool.not_false, qaa, cond_true, cond_false, qav, Option.map_some, Option.bind_some, qab, qah, qar, qas, qau, qaS, cnd, qci, Tm.k_mk, Tm.ks_mk, qaw, Option.getD_none, Option.isSome_none]
  | _ => simp only [Tm.k_mk] at hk; omega
 ·have e : qp7 t = none := by unfold qp7; rw [if_neg hk]
  rw [e]
  refine RuC.of (cf := cf79) (by kernel_rfl) (by kernel_rfl) (((qcW (vw x t) 8).and nothing_c).mono fun N ⟨h1, h3⟩ E s => ?_)
  refine ⟨qaf s (.cells (vw x t).c), (s79_eq _ _ _ _).trans ?_⟩
  unfold s79 s79_1
  simp only [h1, h3, hk, qal, qaW, qaC, qay, qbR, qbV, qcI, vwt, decide_false, Bool.not_false, qaa, cond_true, qav, Option.bind_some, qab, qah, qar, qas, qau, qaS, cnd, qci, qaw, Option.getD_none, Option.isSome_none]
def qkZ (x : Sc) (t : Tm) : Option Tm := if t.k = 8 then (match t.ks with | [c, a, b] => if qcr a 1 2 && (qcr b 0 2 && (!qaO c && decide ((szF x c).1 = 2))) then some c else none | _ => none) else none
theorem qtw (x : Sc) (t : Tm) (g : Gd x t) : RuC 80 x t (qkZ x t) := by
 by_cases hk : t.k = 8
 ·cases g.sh with
  | ite c a b =>
   have e : qkZ x (.ite c a b) = if qcr a 1 2 && (qcr b 0 2 && (!qaO c && decide ((szF x c).1 = 2))) then some c else none := rfl
   rw [e]
   have hsz := g.sz (by simp [Tm.k]) (by simp [Tm.k])
   rw [qcm, Bool.and_eq_true] at hsz
   have hlt : c.size < (Tm.ite c a b).size := qa4 (by simp [Tm.ks])
   refine RuC.of (cf := cf80) (by kernel_rfl) (by kernel_rfl) (((qcW (vw x (.ite c a b)) 8).and ((qbE c).and ((qiv a 1 2).and ((qiv b 0 2).and ((qcO (qcr a 1 2 && (qcr b 0 2 && (!qaO c && decide ((szF x c).1 = 2)))) 133 (vw x (.ite c a b)) c fun _ => qe9 _ c rfl).and ((qoo x (.ite c a b) c 0 rfl g.b (fun h => nomatch h)).and (qe7 _ c x (Nat.le_refl _) (qm6 g.b hlt) hsz.2))))))).mono fun N ⟨h1, h2, ha, hb, h3, h4, h5⟩ E s => ?_)
   obtain ⟨i0, l0⟩ := qcT (n := N) (E := E) (l := [c, a, b]) (u := c) rfl
   obtain ⟨i1, l1⟩ := qfR (n := N) (E := E) (l := [c, a, b]) (u := a) rfl
   obtain ⟨i2, l2⟩ := qsw (n := N) (E := E) (l := [c, a, b]) (u := b) rfl
   have h4' : ∀ E s, cl (qae CP N E) 132 [(vw x (.ite c a b)).v, i64 0] s = some ((vw x c).v, s) := h4
   refine ⟨s, (s80_eq _ _ _ _).trans ?_⟩
   unfold s80 s80_0
   clear e
   generalize qaO c = qa at h2 h3 ⊢
   generalize qcr a 1 2 = q1 at ha h3 ⊢
   generalize qcr b 0 2 = q2 at hb h3 ⊢
   cases q1 <;> cases q2 <;> cases qa <;> simp only [Bool.not_true, Bool.not_false, Bool.true_and, Bool.false_and] at h3 <;> simp only [h1, i0, l0, i1, l1, i2, l2, ha, hb, h2, h3, h4', h5, qkU, Bool.true_and, Bool.false_and, qal, qaW, qaC, qay, qbR, qbV, vwt, qag, qaq, decide_true, Bool.not_true, Bool.not_false, qaa, cond_true, cond_false, qav, Option.map_some, Option.bind_some, qab, qah, qar, qas, qau, Tm.k_mk, Tm.ks_mk, qaw]
  | _ => simp only [Tm.k_mk] at hk; omega
 ·have e : qkZ x t = none := by unfold qkZ; rw [if_neg hk]
  rw [e]
  refine RuC.of (cf := cf80) (by kernel_rfl) (by kernel_rfl) (((qcW (vw x t) 8).and (qcO false 133 (vw x t) .z fun h => nomatch h)).mono fun N ⟨h1, h3⟩ E s => ?_)
  refine ⟨s, (s80_eq _ _ _ _).trans ?_⟩
  unfold s80 s80_0
  simp only [h1, h3, qkU, hk, Bool.false_eq_true, if_false, qal, qaW, qaC, qay, qbR, qbV, vwt, decide_false, qaa, cond_false, qav, Option.bind_some, qab, qah, qar, qas, qaw, Option.getD_none, Option.isSome_none]
def qk0 (t : Tm) : Option Tm := if t.k = 7 then (match t.ks with | [a, b] => if qaO a then some b else none | _ => none) else none
theorem qtx (x : Sc) (t : Tm) (g : Gd x t) : RuC 81 x t (qk0 t) := by
 by_cases hk : t.k = 7
 ·cases g.sh with
  | seq a b =>
   have e : qk0 (.seq a b) = if qaO a then some b else none := rfl
   rw [e]
   refine RuC.of (cf := cf81) (by kernel_rfl) (by kernel_rfl) (((qcW (vw x (.seq a b)) 7).and ((qbE a).and (qcO (qaO a) 145 (vw x (.seq a b)) b fun _ => qlZ _ b rfl))).mono fun N ⟨h1, h2, h3⟩ E s => ?_)
   obtain ⟨i0, l0⟩ := qcT (n := N) (E := E) (l := [a, b]) (u := a) rfl
   refine ⟨s, (s81_eq _ _ _ _).trans ?_⟩
   unfold s81 s81_0
   clear e
   simp only [h1, i0, l0, h2, h3, qkU, qal, qaW, qaC, qay, qbR, qbV, vwt, decide_true, qaa, cond_true, qav, Option.bind_some, qab, qah, qar, qas, Tm.k_mk, Tm.ks_mk, qaw]
  | _ => simp only [Tm.k_mk] at hk; omega
 ·have e : qk0 t = none := by unfold qk0; rw [if_neg hk]
  rw [e]
  refine RuC.of (cf := cf81) (by kernel_rfl) (by kernel_rfl) (((qcW (vw x t) 7).and (qcO false 145 (vw x t) .z fun h => nomatch h)).mono fun N ⟨h1, h3⟩ E s => ?_)
  refine ⟨s, (s81_eq _ _ _ _).trans ?_⟩
  unfold s81 s81_0
  simp only [h1, h3, qkU, hk, Bool.false_eq_true, if_false, qal, qaW, qaC, qay, qbR, qbV, vwt, decide_false, qaa, cond_false, qav, Option.bind_some, qab, qah, qar, qas, qaw, Option.getD_none, Option.isSome_none]
def qiy (t : Tm) : Option Tm := if t.k = 7 then (match t.ks with | [a, b] => if a.k = 7 then (match a.ks with | [p, q] => some (.seq p (.seq q b)) | _ => none) else none | _ => none) else none
theorem qty (x : Sc) (t : Tm) (g : Gd x t) : RuC 82 x t (qiy t) := by
 by_cases hk : t.k = 7
 ·cases g.sh with
  | seq a b =>
   have hsz := g.sz (by simp [Tm.k]) (by simp [Tm.k])
   rw [qbQ, Bool.and_eq_true, is2_iff] at hsz
   by_cases ha7 : a.k = 7
   ·have ha := qdq (x := x) (t := a) (by rw [hsz.2])
    cases ha with
    | seq p q =>
     have e : qiy (.seq (.seq p q) b) = some (.seq p (.seq q b)) := rfl
     rw [e]
     refine RuC.of (cf := cf82) (by kernel_rfl) (by kernel_rfl) (((qcW (vw x (.seq (.seq p q) b)) 7).and ((qoq q b).and (qoq p (.seq q b)))).mono fun N ⟨h1, h2, h3⟩ E s => ?_)
     obtain ⟨i0, l0⟩ := qcT (n := N) (E := E) (l := [.seq p q, b]) (u := .seq p q) rfl
     obtain ⟨i1, l1⟩ := qfR (n := N) (E := E) (l := [.seq p q, b]) (u := b) rfl
     have f0 := fun s => kf (n := N) (E := E) (l := [.seq p q, b]) (j := 0) (u := .seq p q) rfl s
     have f00 := fun s => (f0 s).1
     have f04 := fun s => (f0 s).2.2
     obtain ⟨j0, m0⟩ := qcT (n := N) (E := E) (l := [p, q]) (u := p) rfl
     obtain ⟨j1, m1⟩ := qfR (n := N) (E := E) (l := [p, q]) (u := q) rfl
     refine ⟨s, (s82_eq _ _ _ _).trans ?_⟩
     unfold s82 s82_0
     simp only [h1, i0, f00, f04, j0, m0, j1, m1, i1, l1, h2, h3, qal, qaW, qaC, qay, qbR, qbV, vwt, qag, qbm, decide_true, Bool.not_true, qaa, cond_true, cond_false, qav, Option.map_some, Option.bind_some, qab, qau, Tm.k_mk, Tm.ks_mk, qaw, Option.getD_some, Option.isSome_some]
    | _ => simp only [Tm.k_mk] at ha7; omega
   ·have e : qiy (.seq a b) = none := by simp only [qiy, Tm.k_mk, Tm.ks_mk, if_true, ha7, if_false]
    rw [e]
    refine RuC.of (cf := cf82) (by kernel_rfl) (by kernel_rfl) (((qcW (vw x (.seq a b)) 7).and nothing_c).mono fun N ⟨h1, h3⟩ E s => ?_)
    obtain ⟨i0, l0⟩ := qcT (n := N) (E := E) (l := [a, b]) (u := a) rfl
    have f00 := fun s => (kf (n := N) (E := E) (l := [a, b]) (j := 0) (u := a) rfl s).1
    refine ⟨s, (s82_eq _ _ _ _).trans ?_⟩
    unfold s82 s82_0
    simp only [h1, h3, i0, f00, ha7, qal, qaW, qaC, qay, qbR, qbV, vwt, qag, qbm, decide_true, decide_false, Bool.not_true, Bool.not_false, qaa, cond_true, cond_false, qav, Option.map_some, Option.bind_some, qab, qah, qar, qas, qau, Tm.k_mk, Tm.ks_mk, qaw, Option.getD_none, Option.isSome_none]
  | _ => simp only [Tm.k_mk] at hk; omega
 ·have e : qiy t = none := by unfold qiy; rw [if_neg hk]
  rw [e]
  refine RuC.of (cf := cf82) (by kernel_rfl) (by kernel_rfl) (((qcW (vw x t) 7).and nothing_c).mono fun N ⟨h1, h3⟩ E s => ?_)
  refine ⟨s, (s82_eq _ _ _ _).trans ?_⟩
  unfold s82 s82_0
  simp only [h1, h3, hk, qal, qaW, qaC, qay, qbR, qbV, vwt, decide_false, Bool.not_false, qaa, cond_true, qav, Option.bind_some, qab, qah, qar, qas, qau, qaw, Option.getD_none, Option.isSome_none]
def qg9 (x : Sc) (t : Tm) : Option Tm := if t.k = 7 then (match t.ks with | [a, b] => if a.k = 12 ∨ a.k = 14 then (if !decide (b = .num 0 (szF x t).1) then some (.seq a (.num 0 (szF x t).1)) else none) else none | _ => none) else none
theorem qrW (x : Sc) (a b r : Tm) : IC 146 (fun l => [.ptr l.1 0, .ptr l.2 0]) (C2 (vw x (.seq a b)).c r.c) (Tm.seq a r).v := by
 refine IC.of (cf := cf146) (np := 2) (args' := fun l => [.ptr l.1 0, .ptr l.2 0]) (by kernel_rfl) (by kernel_rfl) (fun _ => rfl) (fun _ => rfl) (fun _ => rfl) (fun l => (Stab.at l.1 _).and (Stab.at l.2 _)) (fun lo => qaV lo _) ((qoq a r).mono fun N h l E s hc => ⟨(Tm.seq a r).v, s, (s146_eq _ _ _ _ _).trans ?_, qao _⟩)
 obtain ⟨i0, l0⟩ := qcT (n := N) (E := E) (l := [a, b]) (u := a) rfl
 have hc1 : qaj (qae CP N E).E s l.1 = some (vw x (.seq a b)).c := by rw [qaQ]; exact hc.1
 have hc2 : qaj (qae CP N E).E s l.2 = some r.c := by rw [qaQ]; exact hc.2
 unfold s146
 simp only [ldP hc1, ldP hc2, Nat.zero_add, i0, l0, h, qal, qaW, qaC, qbV, vwt, Option.bind_some, qab, qbH, Tm.ks_mk]
theorem qqP (x : Sc) (t : Tm) (g : Gd x t) (hz : (Tm.num 0 (szF x t).1).Ok) : RuC 83 x t (qg9 x t) := by
 by_cases hk : t.k = 7
 ·cases g.sh with
  | seq a b =>
   have hsz := g.sz (by simp [Tm.k]) (by simp [Tm.k])
   have ob := g.ok.kids b (by simp [Tm.ks])
   by_cases ha : a.k = 12 ∨ a.k = 14
   ·have e : qg9 x (.seq a b) = if !decide (b = .num 0 (szF x (.seq a b)).1) then some (.seq a (.num 0 (szF x (.seq a b)).1)) else none := by simp only [qg9, Tm.k_mk, Tm.ks_mk, if_true, ha]
    rw [e]
    clear e
    generalize hr : Tm.num 0 (szF x (.seq a b)).1 = r at hz ⊢
    refine RuC.of (cf := cf83) (by kernel_rfl) (by kernel_rfl) (((qcW (vw x (.seq a b)) 7).and ((qe7 _ _ x (Nat.le_refl _) g.b hsz).and ((qop 0 (szF x (.seq a b)).1).and ((qiw b r ob hz).and (qcE (!decide (b = r)) 146 (fun l : Nat × Nat => [.ptr l.1 0, .ptr l.2 0]) (fun _ => rfl) (C2 (vw x (.seq a b)).c r.c) (fun l => (Stab.at l.1 _).and (Stab.at l.2 _)) _ fun h => qrW x a b r))))).mono fun N ⟨h1, h2, h3, h5, h4⟩ E s => ?_)
    rw [hr] at h3
    obtain ⟨i0, l0⟩ := qcT (n := N) (E := E) (l := [a, b]) (u := a) rfl
    obtain ⟨i1, l1⟩ := qfR (n := N) (E := E) (l := [a, b]) (u := b) rfl
    have f00 := fun s => (kf (n := N) (E := E) (l := [a, b]) (j := 0) (u := a) rfl s).1
    let s4 := qaf s (.cells (vw x (.seq a b)).c)
    have hw := h4 (s.next, s4.next) E (qaf s4 (.cells r.c)) ⟨qc0 _ _ _ _, qaI _ _ _⟩
    have hst : stH (qaf s4 (.cells [u8 0, i64 0, i64 0, i64 0, .sl 0 [] .full])) (.ptr s4.next 0) r.c = some (qaf s4 (.cells r.c)) := qg8 _ _ _ _ _ rfl rfl
    simp only [s4] at hw hst
    refine ⟨qaf s4 (.cells r.c), (s83_eq _ _ _ _).trans ?_⟩
    unfold s83 s83_0
    rcases ha with ha | ha
    ·simp only [h1, i0, f00, ha, h2, h3, hst, i1, l1, h5, hw, s4, qal, qaW, qaC, qay, qbR, qbV, qcI, vwt, qag, qbm, Int.reduceEq, decide_true, decide_false, Bool.not_true, Bool.not_false, qaa, cond_true, cond_false, qav, Option.map_some, Option.bind_some, qab, qah, qar, qas, qau, qaS, qbg, cnd, qci, qqM, Tm.k_mk, Tm.ks_mk, qaw]
    ·simp only [h1, i0, f00, ha, h2, h3, hst, i1, l1, h5, hw, s4, qal, qaW, qaC, qay, qbR, qbV, qcI, vwt, qag, qbm, Int.reduceEq, decide_true, decide_false, Bool.not_true, Bool.not_false, qaa, cond_true, cond_false, qav, Option.map_some, Option.bind_some, qab, qah, qar, qas, qau, qaS, qbg, cnd, qci, qqM, Tm.k_mk, Tm.ks_mk, qaw]
   ·have e : qg9 x (.seq a b) = none := by simp only [qg9, Tm.k_mk, Tm.ks_mk, if_true, ha, if_false]
    rw [e]
    refine RuC.of (cf := cf83) (by kernel_rfl) (by kernel_rfl) (((qcW (vw x (.seq a b)) 7).and nothing_c).mono fun N ⟨h1, h3⟩ E s => ?_)
    obtain ⟨i0, l0⟩ := qcT (n := N) (E := E) (l := [a, b]) (u := a) rfl
    have f00 := fun s => (kf (n := N) (E := E) (l := [a, b]) (j := 0) (u := a) rfl s).1
    have k1 : ¬ a.k = 12 := fun h => ha (.inl h)
    have k2 : ¬ a.k = 14 := fun h => ha (.inr h)
    refine ⟨qaf s (.cells (vw x (.seq a b)).c), (s83_eq _ _ _ _).trans ?_⟩
    unfold s83 s83_0
    simp only [h1, h3, i0, f00, k1, k2, qal, qaW, qaC, qay, qbR, qbV, qcI, vwt, qag, qbm, decide_true, decide_false, Bool.not_true, Bool.not_false, qaa, cond_true, cond_false, qav, Option.map_some, Option.bind_some, qab, qah, qar, qas, qau, qaS, qbg, cnd, qci, Tm.k_mk, Tm.ks_mk, qaw, Option.getD_none, Option.isSome_none]
  | _ => simp only [Tm.k_mk] at hk; omega
 ·have e : qg9 x t = none := by unfold qg9; rw [if_neg hk]
  rw [e]
  refine RuC.of (cf := cf83) (by kernel_rfl) (by kernel_rfl) (((qcW (vw x t) 7).and nothing_c).mono fun N ⟨h1, h3⟩ E s => ?_)
  refine ⟨qaf s (.cells (vw x t).c), (s83_eq _ _ _ _).trans ?_⟩
  unfold s83 s83_0
  simp only [h1, h3, hk, qal, qaW, qaC, qay, qbR, qbV, qcI, vwt, decide_false, Bool.not_false, qaa, cond_true, cond_false, qav, Option.bind_some, qab, qah, qar, qas, qau, qaS, qbg, cnd, qci, qaw, Option.getD_none, Option.isSome_none]
def qgE (t : Tm) : Option Tm := if t.k = 9 then (match t.ks with | [c, b] => if qaO c && decide (c.n = 0) then some (.num 0 1) else none | _ => none) else none
theorem loop1_c : PC CP 147 [] ((Tm.num 0 1).v) := by
 refine PC.of2 (cf := cf147) (np := 0) (args' := []) (by kernel_rfl) (by kernel_rfl) rfl (by first | rfl | (simp only [List.all_cons, qan, qcx]; rfl)) (by first | rfl | (simp only [List.map_cons, qao, qcy]; rfl)) (fun lo => by first | rfl | exact qaV lo _ | exact qbs lo _ | exact qdd lo _ _) (Ev.mono (qop 0 1) fun N h E s => ⟨(Tm.num 0 1).v, s, (s147_eq _ _ _).trans ?_, (by first | rfl | exact qao _ | exact qa5 _ | exact qcX _ _)⟩)
 unfold s147
 simp only [h, qal, qaW, qaC, Option.bind_some, qab]
theorem qos (b : Bool) : PC CP 126 [bl b, .p (.func 147 [] [])] (qe8 (if b then some (Tm.num 0 1) else none)) :=
 (qtt b 147 (fun _ _ => True) Stab.true (.num 0 1) fun _ => (loop1_c.and (Ev.ge 1)).mono fun n ⟨h, hn⟩ E s _ => by rw [qeI CP hn]; exact h E s).mono fun n h E s => h E s trivial
theorem qrX (x : Sc) (t : Tm) (g : Gd x t) : RuC 84 x t (qgE t) := by
 by_cases hk : t.k = 9
 ·cases g.sh with
  | whl c b =>
   have e : qgE (.whl c b) = if qaO c && decide (c.n = 0) then some (.num 0 1) else none := rfl
   rw [e]
   refine RuC.of (cf := cf84) (by kernel_rfl) (by kernel_rfl) (((qcW (vw x (.whl c b)) 9).and ((qbE c).and (qos (qaO c && decide (c.n = 0))))).mono fun N ⟨h1, h2, h3⟩ E s => ?_)
   obtain ⟨i0, l0⟩ := qcT (n := N) (E := E) (l := [c, b]) (u := c) rfl
   have f01 := fun s => (kf (n := N) (E := E) (l := [c, b]) (j := 0) (u := c) rfl s).2.1
   refine ⟨s, (s84_eq _ _ _ _).trans ?_⟩
   unfold s84 s84_0
   clear e
   generalize qaO c = qa at h2 h3 ⊢
   cases qa <;> simp only [Bool.true_and, Bool.false_and] at h3 <;> simp only [h1, i0, l0, f01, h2, h3, Bool.true_and, Bool.false_and, qal, qaW, qaC, qay, qbR, qbV, vwt, qag, qaq, decide_true, qaa, cond_true, cond_false, qav, Option.map_some, Option.bind_some, qab, qah, qar, qas, Tm.k_mk, Tm.ks_mk, qaw]
  | _ => simp only [Tm.k_mk] at hk; omega
 ·have e : qgE t = none := by unfold qgE; rw [if_neg hk]
  rw [e]
  refine RuC.of (cf := cf84) (by kernel_rfl) (by kernel_rfl) (((qcW (vw x t) 9).and (qos false)).mono fun N ⟨h1, h3⟩ E s => ?_)
  refine ⟨s, (s84_eq _ _ _ _).trans ?_⟩
  unfold s84 s84_0
  simp only [h1, h3, hk, Bool.false_eq_true, if_false, qal, qaW, qaC, qay, qbR, qbV, vwt, decide_false, qaa, cond_false, qav, Option.bind_some, qab, qah, qar, qas, qaw, Option.getD_none, Option.isSome_none]
def qk1 (t : Tm) : Option Tm := if t.k = 11 then (match t.ks with | [u, w] => if decide (u.k = 12) && decide (u.n = 0) then some w else none | _ => none) else none
theorem qtz (x : Sc) (t : Tm) (g : Gd x t) : RuC 90 x t (qk1 t) := by
 by_cases hk : t.k = 11
 ·cases g.sh with
  | lbl u w =>
   have e : qk1 (.lbl u w) = if decide (u.k = 12) && decide (u.n = 0) then some w else none := rfl
   rw [e]
   refine RuC.of (cf := cf90) (by kernel_rfl) (by kernel_rfl) (((qcW (vw x (.lbl u w)) 11).and (qcO (decide (u.k = 12) && decide (u.n = 0)) 145 (vw x (.lbl u w)) w fun _ => qlZ _ w rfl)).mono fun N ⟨h1, h3⟩ E s => ?_)
   obtain ⟨i0, l0⟩ := qcT (n := N) (E := E) (l := [u, w]) (u := u) rfl
   have f00 := fun s => (kf (n := N) (E := E) (l := [u, w]) (j := 0) (u := u) rfl s).1
   have f01 := fun s => (kf (n := N) (E := E) (l := [u, w]) (j := 0) (u := u) rfl s).2.1
   refine ⟨s, (s90_eq _ _ _ _).trans ?_⟩
   unfold s90 s90_0
   clear e
   by_cases hu : u.k = 12 <;> simp only [hu, decide_true, decide_false, Bool.true_and, Bool.false_and] at h3 <;> simp only [h1, i0, f00, f01, hu, h3, qkU, Bool.true_and, Bool.false_and, qal, qaW, qaC, qay, qbR, qbV, vwt, qag, qaq, decide_true, decide_false, qaa, cond_true, cond_false, qav, Option.map_some, Option.bind_some, qab, qah, qar, qas, Tm.k_mk, Tm.ks_mk, qaw]
  | _ => simp only [Tm.k_mk] at hk; omega
 ·have e : qk1 t = none := by unfold qk1; rw [if_neg hk]
  rw [e]
  refine RuC.of (cf := cf90) (by kernel_rfl) (by kernel_rfl) (((qcW (vw x t) 11).and (qcO false 145 (vw x t) .z fun h => nomatch h)).mono fun N ⟨h1, h3⟩ E s => ?_)
  refine ⟨s, (s90_eq _ _ _ _).trans ?_⟩
  unfold s90 s90_0
  simp only [h1, h3, qkU, hk, Bool.false_eq_true, if_false, qal, qaW, qaC, qay, qbR, qbV, vwt, decide_false, qaa, cond_false, qav, Option.bind_some, qab, qah, qar, qas, qaw, Option.getD_none, Option.isSome_none]
def qer (t : Tm) : Option Tm := if t.k = 13 then (match t.ks with | [a, b] => if decide (a = b) then some a else none | _ => none) else none
theorem qp8 (x : Sc) (t : Tm) (g : Gd x t) : RuC 92 x t (qer t) := by
 by_cases hk : t.k = 13
 ·cases g.sh with
  | cho a b =>
   have e : qer (.cho a b) = if decide (a = b) then some a else none := rfl
   rw [e]
   have oa := g.ok.kids a (by simp [Tm.ks])
   have ob := g.ok.kids b (by simp [Tm.ks])
   refine RuC.of (cf := cf92) (by kernel_rfl) (by kernel_rfl) (((qcW (vw x (.cho a b)) 13).and ((qiw a b oa ob).and (qcO (decide (a = b)) 133 (vw x (.cho a b)) a fun _ => qe9 _ a rfl))).mono fun N ⟨h1, h2, h3⟩ E s => ?_)
   obtain ⟨i0, l0⟩ := qcT (n := N) (E := E) (l := [a, b]) (u := a) rfl
   obtain ⟨i1, l1⟩ := qfR (n := N) (E := E) (l := [a, b]) (u := b) rfl
   refine ⟨s, (s92_eq _ _ _ _).trans ?_⟩
   unfold s92 s92_0
   clear e
   simp only [h1, i0, l0, i1, l1, h2, h3, qkU, qal, qaW, qaC, qay, qbR, qbV, vwt, decide_true, qaa, cond_true, qav, Option.bind_some, qab, qah, qar, qas, Tm.k_mk, Tm.ks_mk, qaw]
  | _ => simp only [Tm.k_mk] at hk; omega
 ·have e : qer t = none := by unfold qer; rw [if_neg hk]
  rw [e]
  refine RuC.of (cf := cf92) (by kernel_rfl) (by kernel_rfl) (((qcW (vw x t) 13).and (qcO false 133 (vw x t) .z fun h => nomatch h)).mono fun N ⟨h1, h3⟩ E s => ?_)
  refine ⟨s, (s92_eq _ _ _ _).trans ?_⟩
  unfold s92 s92_0
  simp only [h1, h3, qkU, hk, Bool.false_eq_true, if_false, qal, qaW, qaC, qay, qbR, qbV, vwt, decide_false, qaa, cond_false, qav, Option.bind_some, qab, qah, qar, qas, qaw, Option.getD_none, Option.isSome_none]
def qfr (t : Tm) : Option Tm := if t.k = 13 then (match t.ks with | [a, b] => if a.k = 14 then some b else if b.k = 14 then some a else none | _ => none) else none
theorem qrY (x : Sc) (t : Tm) (g : Gd x t) : RuC 93 x t (qfr t) := by
 by_cases hk : t.k = 13
 ·cases g.sh with
  | cho a b =>
   have e : qfr (.cho a b) = if a.k = 14 then some b else if decide (b.k = 14) then some a else none := by simp only [qfr, Tm.k_mk, Tm.ks_mk, if_true, decide_eq_true_eq]
   rw [e]
   refine RuC.of (cf := cf93) (by kernel_rfl) (by kernel_rfl) (((qcW (vw x (.cho a b)) 13).and (qcO (decide (b.k = 14)) 133 (vw x (.cho a b)) a fun _ => qe9 _ a rfl)).mono fun N ⟨h1, h3⟩ E s => ?_)
   obtain ⟨i0, l0⟩ := qcT (n := N) (E := E) (l := [a, b]) (u := a) rfl
   obtain ⟨i1, l1⟩ := qfR (n := N) (E := E) (l := [a, b]) (u := b) rfl
   have f00 := fun s => (kf (n := N) (E := E) (l := [a, b]) (j := 0) (u := a) rfl s).1
   have f10 := fun s => (kf (n := N) (E := E) (l := [a, b]) (j := 1) (u := b) rfl s).1
   refine ⟨s, (s93_eq _ _ _ _).trans ?_⟩
   unfold s93
   clear e
   by_cases hu : a.k = 14 <;> simp only [h1, i0, i1, l1, f00, f10, hu, h3, qkU, if_true, if_false, qal, qaW, qaC, qay, qbR, qbV, vwt, qag, qaq, decide_true, decide_false, Bool.not_true, qaa, cond_true, cond_false, Option.map_some, Option.bind_some, qab, qah, qar, qas, qau, Tm.k_mk, Tm.ks_mk, qaw, Option.getD_some, Option.isSome_some]
  | _ => simp only [Tm.k_mk] at hk; omega
 ·have e : qfr t = none := by unfold qfr; rw [if_neg hk]
  rw [e]
  refine RuC.of (cf := cf93) (by kernel_rfl) (by kernel_rfl) (((qcW (vw x t) 13).and nothing_c).mono fun N ⟨h1, h3⟩ E s => ?_)
  refine ⟨s, (s93_eq _ _ _ _).trans ?_⟩
  unfold s93
  simp only [h1, h3, hk, qal, qaW, qaC, qay, qbR, qbV, vwt, decide_false, Bool.not_false, qaa, cond_true, Option.bind_some, qab, qah, qar, qas, qau, qaw, Option.getD_none, Option.isSome_none]
def qeN (x : Sc) (t : Tm) : Option Tm := if t.k = 7 then (match t.ks with | [p, q] => if p.k = 4 then (match p.ks with | [u] => if decide (q.k = 3) && (decide (p.i = q.i) && (decide (x.top < p.i) && qaO u)) then some (.seq p u) else none | _ => none) else none | _ => none) else none
theorem qp9 (i : Int) (u : Tm) : IC 154 (fun l => [.ptr l 0]) (C1 (Tm.put i u).c) (Tm.seq (.put i u) u).v := by
 refine IC.of (cf := cf154) (np := 1) (args' := fun l => [.ptr l 0]) (by kernel_rfl) (by kernel_rfl) (fun _ => rfl) (fun _ => rfl) (fun _ => rfl) (fun l => Stab.at l _) (fun lo => qaV lo _) ((qoq (.put i u) u).mono fun N h l E s hc => ⟨(Tm.seq (.put i u) u).v, s, (s154_eq _ _ _ _).trans ?_, qao _⟩)
 obtain ⟨i0, l0⟩ := qcT (n := N) (E := E) (l := [u]) (u := u) rfl
 have hc' : qaj (qae CP N E).E s l = some (Tm.put i u).c := by rw [qaQ]; exact hc
 unfold s154
 simp only [ldP hc', Nat.zero_add, i0, l0, h, qal, qaW, qp3, qaC, Option.bind_some, qab, qbH, Tm.ks_mk]
theorem qcP (l : List Tm) : qaX (some [kv l]) (some [kv l]) = true := by
 simp only [qaX, qdi, qiq, Bool.and_self]
theorem qrZ (x : Sc) (t : Tm) (g : Gd x t) : RuC 88 x t (qeN x t) := by
 by_cases hk : t.k = 7
 ·cases g.sh with
  | seq p q =>
   have hsz := g.sz (by simp [Tm.k]) (by simp [Tm.k])
   rw [qbQ, Bool.and_eq_true, is2_iff] at hsz
   have hcut : cut (vw x (.seq p q)).c 4 1 = some [kv [p, q]] := rfl
   by_cases hp4 : p.k = 4
   ·have hp := qdq (x := x) (t := p) (by rw [hsz.2])
    cases hp with
    | put i u =>
     have e : qeN x (.seq (.put i u) q) = if decide (q.k = 3) && (decide (i = q.i) && (decide (x.top < i) && qaO u)) then some (.seq (.put i u) u) else none := rfl
     rw [e]
     refine RuC.of (cf := cf88) (by kernel_rfl) (by kernel_rfl) (((qcW (vw x (.seq (.put i u) q)) 7).and ((qbE u).and (qcE (decide (q.k = 3) && (decide (i = q.i) && (decide (x.top < i) && qaO u))) 154 (fun l => [.ptr l 0]) (fun _ => rfl) (C1 (Tm.put i u).c) (fun l => Stab.at l _) _ fun h => qp9 i u))).mono fun N ⟨h1, h2, h4⟩ E s => ?_)
     obtain ⟨i0, l0⟩ := qcT (n := N) (E := E) (l := [.put i u, q]) (u := .put i u) rfl
     obtain ⟨i1, l1⟩ := qfR (n := N) (E := E) (l := [.put i u, q]) (u := q) rfl
     obtain ⟨j0, m0⟩ := qcT (n := N) (E := E) (l := [u]) (u := u) rfl
     have hw := h4 s.next E (qaf s (.cells (Tm.put i u).c)) (qaI _ _ _)
     have hst : stH (qaf s (.cells [u8 0, i64 0, i64 0, i64 0, .sl 0 [] .full])) (.ptr s.next 0) (Tm.put i u).c = some (qaf s (.cells (Tm.put i u).c)) := qg8 _ _ _ _ _ rfl rfl
     refine ⟨qaf s (.cells (Tm.put i u).c), (s88_eq _ _ _ _).trans ?_⟩
     unfold s88 s88_0
     clear e
     generalize qaO u = qa at h2 hw ⊢
     by_cases q3 : q.k = 3
     ·by_cases qi : i = q.i
      ·by_cases qt : x.top < i
       ·simp only [q3, qt, decide_true, Bool.true_and, ← qi] at hw
        simp only [h1, i0, l0, i1, l1, hcut, qcP, Bool.and_self, hst, j0, m0, q3, ← qi, qt, h2, hw, Bool.true_and, qal, qaW, qgC, qkR, qp3, qaC, qay, qbR, qbV, qol, vwt, qsB, qag, qaq, qbe, decide_true, Bool.not_true, qaa, cond_true, cond_false, qav, Option.map_some, Option.bind_some, qab, qah, qar, qas, qau, qbg, cnd, qci, Tm.k_mk, Tm.i_mk, Tm.ks_mk, qaw]
       ·simp only [q3, qt, decide_true, decide_false, Bool.true_and, Bool.false_and, ← qi] at hw
        simp only [h1, i0, l0, i1, l1, hcut, qcP, Bool.and_self, hst, q3, ← qi, qt, hw, Bool.true_and, Bool.false_and, Bool.false_eq_true, if_false, qal, qaW, qgC, qkR, qp3, qaC, qay, qbR, qbV, qol, vwt, qsB, qag, qaq, qbe, decide_true, decide_false, Bool.not_true, qaa, cond_true, cond_false, qav, Option.map_some, Option.bind_some, qab, qah, qar, qas, qau, qbg, cnd, qci, Tm.k_mk, Tm.i_mk, Tm.ks_mk, qaw, Option.getD_none, Option.isSome_none]
      ·simp only [q3, qi, decide_true, decide_false, Bool.true_and, Bool.false_and] at hw
       simp only [h1, i0, l0, i1, l1, hcut, qcP, Bool.and_self, hst, q3, qi, hw, Bool.true_and, Bool.false_and, Bool.false_eq_true, if_false, qal, qaW, qgC, qkR, qp3, qaC, qay, qbR, qbV, qol, vwt, qsB, qag, qaq, qbe, decide_true, decide_false, Bool.not_true, qaa, cond_true, cond_false, qav, Option.map_some, Option.bind_some, qab, qah, qar, qas, qau, qbg, cnd, qci, Tm.k_mk, Tm.i_mk, Tm.ks_mk, qaw, Option.getD_none, Option.isSome_none]
     ·simp only [q3, decide_false, Bool.false_and] at hw
      simp only [h1, i0, l0, i1, l1, hcut, qcP, Bool.and_self, hst, q3, hw, Bool.false_and, Bool.false_eq_true, if_false, qal, qaW, qgC, qkR, qaC, qay, qbR, qbV, qol, vwt, qsB, qag, qaq, decide_true, decide_false, Bool.not_true, qaa, cond_true, cond_false, qav, Option.map_some, Option.bind_some, qab, qah, qar, qas, qau, qbg, cnd, qci, Tm.k_mk, Tm.ks_mk, qaw, Option.getD_none, Option.isSome_none]
    | _ => simp only [Tm.k_mk] at hp4; omega
   ·have e : qeN x (.seq p q) = none := by simp only [qeN, Tm.k_mk, Tm.ks_mk, if_true, hp4, if_false]
    rw [e]
    refine RuC.of (cf := cf88) (by kernel_rfl) (by kernel_rfl) (((qcW (vw x (.seq p q)) 7).and (qcE false 154 (fun l => [.ptr l 0]) (fun _ => rfl) (C1 p.c) (fun l => Stab.at l _) .z fun h => nomatch h)).mono fun N ⟨h1, h4⟩ E s => ?_)
    obtain ⟨i0, l0⟩ := qcT (n := N) (E := E) (l := [p, q]) (u := p) rfl
    obtain ⟨i1, l1⟩ := qfR (n := N) (E := E) (l := [p, q]) (u := q) rfl
    have hw := h4 s.next E (qaf s (.cells p.c)) (qaI _ _ _)
    have hst : stH (qaf s (.cells [u8 0, i64 0, i64 0, i64 0, .sl 0 [] .full])) (.ptr s.next 0) p.c = some (qaf s (.cells p.c)) := qg8 _ _ _ _ _ rfl rfl
    refine ⟨qaf s (.cells p.c), (s88_eq _ _ _ _).trans ?_⟩
    unfold s88 s88_0
    simp only [h1, i0, l0, i1, l1, hcut, qcP, Bool.and_self, hst, hp4, hw, Bool.false_eq_true, if_false, qal, qaW, qgC, qkR, qp3, qaC, qay, qbR, qbV, qol, vwt, qsB, qag, qaq, qbe, decide_true, decide_false, Bool.not_true, qaa, cond_false, qav, Option.map_some, Option.bind_some, qab, qah, qar, qas, qau, qbg, cnd, qci, Tm.k_mk, Tm.ks_mk, qaw, Option.getD_none, Option.isSome_none]
  | _ => simp only [Tm.k_mk] at hk; omega
 ·have e : qeN x t = none := by unfold qeN; rw [if_neg hk]
  rw [e]
  refine RuC.of (cf := cf88) (by kernel_rfl) (by kernel_rfl) (((qcW (vw x t) 7).and nothing_c).mono fun N ⟨h1, h3⟩ E s => ?_)
  refine ⟨s, (s88_eq _ _ _ _).trans ?_⟩
  unfold s88 s88_0
  simp only [h1, h3, hk, qal, qaW, qaC, qay, qbR, qbV, qol, vwt, qsB, decide_false, Bool.not_false, qaa, cond_true, qav, Option.bind_some, qab, qah, qar, qas, qau, qbg, cnd, qaw, Option.getD_none, Option.isSome_none]
end Go.AI.Tryz
namespace Go.AI
def TF (s s' : ASt) : Prop := s.ntok ≤ s'.ntok ∧ ∀ t, t < s.ntok → qam s'.toks t = qam s.toks t
theorem TF.refl (s : ASt) : TF s s := ⟨Nat.le_refl _, fun _ _ => rfl⟩
theorem TF.trans {a b c : ASt} (h : TF a b) (k : TF b c) : TF a c := ⟨Nat.le_trans h.1 k.1, fun t ht => (k.2 t (Nat.lt_of_lt_of_le ht h.1)).trans (h.2 t ht)⟩
theorem qgF {α : Type} (x : α) : ∀ {l : List (Nat × α)} {n : Nat} {y : α}, qam l n = some y → ∃ l', qaF l n x = some l'
 | [], n, y, h => by cases h
 | (k, v) :: r, n, y, h => by
  simp only [qam, qaF] at h ⊢
  cases hk : Nat.beq k n with
  | true => exact ⟨_, rfl⟩
  | false =>
   rw [hk] at h
   obtain ⟨l', e⟩ := qgF x (l := r) h
   exact ⟨(k, v) :: l', by rw [e]; rfl⟩
theorem qqQ (e : Env) {sz b n t : Nat} {cs new : List PVal} {y : AVal} {s : ASt} (ht : qam s.toks t = some (n, sz)) (hy : qcU y = some (1, new)) (hl : new.length = sz) (hb : (n + 1) * b ≤ 140737488355328) :
  ∃ ts, ap e sz b (.sl n cs (.own t)) y s = some (.sl (n + 1) (cs ++ new) (.own t), { s with toks := ts }) ∧ ∀ m, qam ts m = if m = t then some (n + 1, sz) else qam s.toks m := by
 obtain ⟨ts, hts⟩ := qgF (n + 1, sz) ht
 refine ⟨ts, ?_, qb8 hts⟩
 unfold ap stV
 have h1 : Nat.ble ((n + 1) * b) 140737488355328 = true := ble_iff.2 hb
 have h2 : Nat.beq new.length (1 * sz) = true := qaz (by omega)
 have h4 : (Nat.beq n n && Nat.beq sz sz) = true := by rw [qaz rfl, qaz rfl]; rfl
 simp only [qaB, Arg.ev, hy, Option.bind_some, h1, h2, Bool.and_self, cond_true, ht, h4, hts, Option.map_some]
 rfl
theorem qvf (e : Env) {sz b m : Nat} (s : ASt) (hb : m * b ≤ 140737488355328) : mk e sz b (i64 (.ofNat m)) s = some (.sl 0 [] (.own s.ntok), { s with ntok := s.ntok + 1, toks := (s.ntok, 0, sz) :: s.toks }) := by
 unfold mk stV
 have h1 : Nat.ble (m * b) 140737488355328 = true := ble_iff.2 hb
 simp only [qaB, Arg.ev, qfw, Option.bind_some, h1, cond_true]
def Tm.with (t : Tm) (ks : List Tm) : Tm := .mk t.k t.n t.m t.i ks
section
variable {σ : Type}
def qeU (f : σ → Tm → Int → σ × Tm) (lab : Bool) (l : Int) : Nat → σ → List Tm → σ × List Tm
 | _, x, [] => (x, [])
 | i, x, k :: r => ((qeU f lab l (i + 1) (f x k (if lab && decide (i = 0) then l + 1 else l)).1 r).1, (f x k (if lab && decide (i = 0) then l + 1 else l)).2 :: (qeU f lab l (i + 1) (f x k (if lab && decide (i = 0) then l + 1 else l)).1 r).2)
def qcz (by_ : σ → Tm → Int → σ × (Tm × Bool)) : Nat → σ → Tm → Int → σ × Tm
 | 0, x, t, _ => (x, t)
 | d + 1, x, t, l =>
  if (by_ x t l).2.2 then ((qeU (qcz by_ d) (decide ((by_ x t l).2.1.k = 11)) l 0 (by_ x t l).1 (by_ x t l).2.1.ks).1, (by_ x t l).2.1.with (qeU (qcz by_ d) (decide ((by_ x t l).2.1.k = 11)) l 0 (by_ x t l).1 (by_ x t l).2.1.ks).2)
  else ((by_ x t l).1, (by_ x t l).2.1)
end
end Go.AI
namespace Go.AI.Tryz
section
variable {σ : Type} (R : σ → qaJ → ASt → Prop) (by_ : σ → Tm → Int → σ × (Tm × Bool)) (fv : AVal) (Ad : Tm → Prop)
def ByC (n d : Nat) : Prop := ∀ (x : σ) (E : qaJ) (s : ASt) (t : Tm) (l : Int), t.size ≤ d → Ad t → 0 ≤ l → l + t.size ≤ 1000000 → R x E s → ∃ s', clv (qae CP n E) fv [t.v, i64 l] s = some (.tuple [(by_ x t l).2.1.v, bl (by_ x t l).2.2], s') ∧ R (by_ x t l).1 E s' ∧ TF s s'
def MapC (n d : Nat) : Prop := ∀ (x : σ) (E : qaJ) (s : ASt) (t : Tm) (l : Int), t.size ≤ d → Ad t → 0 ≤ l → l + t.size ≤ 1000000 → R x E s → ∃ s', cl (qae CP n E) 108 [t.v, i64 l, fv] s = some ((qcz by_ d x t l).2.v, s') ∧ R (qcz by_ d x t l).1 E s' ∧ TF s s'
end
section
variable {σ κ : Type} {R : κ → σ → qaJ → ASt → Prop} {by_ : σ → Tm → Int → σ × (Tm × Bool)} {fv : κ → AVal} {Ad : Tm → Prop}
theorem qds (hR : ∀ q x E s s', R q x E s → s'.heap = s.heap → s'.next = s.next → R q x E s') (ha : ∀ q, qbj (fv q) = true) (he : ∀ q, qaA (fv q) = fv q)
  (hk : ∀ x t l, Ad t → (by_ x t l).2.2 = true → (by_ x t l).2.1.size ≤ t.size ∧ ∀ u ∈ (by_ x t l).2.1.ks, Ad u) :
  ∀ (d : Nat), (Ev fun n => ∀ q, ByC (R q) by_ (fv q) Ad n d) → Ev fun n => ∀ q, MapC (R q) by_ (fv q) Ad n d
 | 0, _ => Ev.of fun n q x E s t l h => by have := Tm.size_pos t; omega
 | d + 1, hby => by
  have ih := qds hR ha he hk d (hby.mono fun n h q x E s t l h1 => h q x E s t l (by omega))
  refine Ev.succ ((hby.and (ih.and (Ev.ge (d + 3)))).mono fun n ⟨hb, hm, hn⟩ q x E s t l hsz hAd hl hls hr => ?_)
  suffices ∃ r s', s108 (qae CP n E) n t.v (i64 l) (fv q) s = some (r, s') ∧ qaA r = (qcz by_ (d + 1) x t l).2.v ∧ R q (qcz by_ (d + 1) x t l).1 E s' ∧ TF s s' by
   obtain ⟨r, s', e1, e2, e3, e4⟩ := this
   refine ⟨s', ?_, e3, e4⟩
   rw [qbL]
   exact qe4 (cf := cf108) (np := 3) (args' := [t.v, i64 l, fv q]) (v := r) (by kernel_rfl) (by kernel_rfl) rfl (by simp only [List.all_cons, qan, ha q]; rfl) (by simp only [List.map_cons, qao, he q]; rfl) ((s108_eq _ _ _ _ _ _).trans e1) e2 (by rw [Tm.v_eq]; rfl)
  obtain ⟨s7, b1, b2, b3⟩ := hb q x E s t l hsz hAd hl hls hr
  unfold qcz
  have hkk := hk x t l hAd
  generalize by_ x t l = qq at b1 b2 hkk ⊢
  obtain ⟨x', t', go⟩ := qq
  unfold s108
  cases go with
  | false =>
   simp only [b1, Bool.false_eq_true, if_false, qal, qaW, qaC, qok, Bool.not_false, qaa, cond_true, Option.bind_some, qab, qah, qar, qas, qau]
   exact ⟨_, s7, rfl, qao _, b2, b3⟩
  | true =>
   obtain ⟨hsz', hkAd⟩ := hkk rfl
   simp only at hsz' hkAd b1 b2
   have hlen := Tm.len_le_size t'.ks
   have hts := Tm.size_ks t'
   have hmk := qvf (qae CP n E) (sz := 5) (b := 56) (m := t'.ks.length) s7 (by omega)
   simp only [b1, if_true, hmk, qal, qaW, qp3, qok, Bool.not_true, qaa, cond_false, Option.bind_some, qab, qah, qar, qas, qau, qcV]
   unfold s108_2
   generalize hF : (fun (h30 : AVal → AVal → Nat → List AVal → List AVal → List AVal → ASt → Res) (x23 x24 : AVal) (g25 : Nat) (c26 c27 c28 : List AVal) (s29 : ASt) => _) = F
   generalize hlab : decide (t'.k = 11) = lab
   have key : ∀ (rest done : List Tm) (k j g : Nat) (c : List AVal) (y : σ) (sj : ASt), done ++ rest = done ++ t'.ks.drop j → done.length = j → j + rest.length = t'.ks.length → rest.length < k → R q y E sj → TF s7 sj → s7.ntok < sj.ntok → qam sj.toks s7.ntok = some (j, 5) →
     ∃ r s', lp (fun _ _ _ _ _ _ _ => none) F k (.sl j (Tm.cellsL done) (.own s7.ntok)) (i64 (.ofNat j)) g t'.c [u8 0, i64 0, i64 0, i64 0, .sl 0 [] .full] c sj = some (r, s') ∧ qaA r = (t'.with (done ++ (qeU (qcz by_ d) lab l j y rest).2)).v ∧ R q (qeU (qcz by_ d) lab l j y rest).1 E s' ∧ TF s7 s' := by
    intro rest
    induction rest with
    | nil =>
     intro done k j g c y sj h1 h2 h3 hk hr htf hlt hta
     obtain ⟨k, rfl⟩ : ∃ m, k = m + 1 := ⟨k - 1, by simp only [List.length_nil] at hk; omega⟩
     rw [qa9]
     generalize lp _ F k = L
     subst hF
     simp only [List.length_nil, Nat.add_zero] at h3
     have hnl : ¬ (Int.ofNat j < Int.ofNat t'.ks.length) := fun h => by have := of_lt.1 h; omega
     have hcv : AVal.cells none (.sl j (Tm.cellsL done) (.own s7.ntok)) = some [.sl j (Tm.cellsL done) (.own s7.ntok)] := rfl
     refine ⟨.agg [u8 t'.k, i64 t'.n, i64 t'.m, i64 t'.i, .sl j (Tm.cellsL done) (.own s7.ntok)], sj, ?_, ?_, hr, htf⟩
     ·have ho : over t'.c 4 [.sl j (Tm.cellsL done) (.own s7.ntok)] = some [u8 t'.k, i64 t'.n, i64 t'.m, i64 t'.i, .sl j (Tm.cellsL done) (.own s7.ntok)] := rfl
      simp only [hnl, hcv, ho, qaN, qbI, qgv, qgC, qag, qaq, qaE, decide_false, qaa, cond_false, qav, Option.map_some, Option.bind_some, cnd]
     ·simp only [qeU, List.append_nil]
      subst h2
      rw [Tm.with, Tm.v_mk]
      rfl
    | cons u rest ih =>
     intro done k j g c y sj h1 h2 h3 hk hr htf hlt hta
     obtain ⟨k, rfl⟩ : ∃ m, k = m + 1 := ⟨k - 1, by simp only [List.length_cons] at hk; omega⟩
     simp only [List.length_cons] at h3 hk
     have hj : j < t'.ks.length := by omega
     have hdr := List.drop_eq_getElem_cons hj
     have h1' := List.append_cancel_left h1
     rw [hdr] at h1'
     injection h1' with hu hrest
     have hku : t'.ks[j]? = some u := by rw [List.getElem?_eq_getElem hj, hu]
     have hmem : u ∈ t'.ks := List.mem_of_getElem? hku
     have hus : u.size < t'.size := qa4 hmem
     have hia : iaV 5 (kv t'.ks) (i64 (.ofNat j)) = some (Tm.cellsL t'.ks, j * 5) := Tm.ia_kid hj
     have hld : ∀ s, ldH (qae CP n E) s (.elem (Tm.cellsL t'.ks) (j * 5)) (some 5) = some u.v := fun s => Tm.ld_kid _ _ hku
     let l' : Int := if lab && decide (j = 0) then l + 1 else l
     have hl' : 0 ≤ l' ∧ l' + u.size ≤ 1000000 := by
      simp only [l']
      split <;> omega
     obtain ⟨s1, m1, m2, m3⟩ := hm q y E sj u l' (by omega) (hkAd u hmem) hl'.1 hl'.2 hr
     have hta1 : qam s1.toks s7.ntok = some (j, 5) := (m3.2 _ hlt).trans hta
     obtain ⟨ts, a1, a2⟩ := qqQ (qae CP n E) (b := 56) (cs := Tm.cellsL done) (new := (qcz by_ d y u l').2.cells) (y := .sl 1 (qcz by_ d y u l').2.cells .full) hta1 rfl (Tm.len_cells _) (by omega)
     have hms := qrO (qcz by_ d y u l').2
     have hcl1 : Tm.cellsL [(qcz by_ d y u l').2] = (qcz by_ d y u l').2.cells := by simp only [Tm.cellsL, List.append_nil]
     rw [hcl1] at hms
     have hcells : Tm.cellsL done ++ (qcz by_ d y u l').2.cells = Tm.cellsL (done ++ [(qcz by_ d y u l').2]) := by rw [Tm.cellsL_append, hcl1]
     rw [hcells] at a1
     have htf2 : TF s7 { s1 with toks := ts } := by
      have h := htf.trans m3
      refine ⟨h.1, fun t ht => ?_⟩
      show qam ts t = _
      rw [a2, if_neg (by omega)]
      exact h.2 t ht
     have hnext := ih (done ++ [(qcz by_ d y u l').2]) k (j + 1) (g + 1) u.c (qcz by_ d y u l').1 { s1 with toks := ts } (by rw [hrest]) (by simp only [List.length_append, List.length_cons, List.length_nil, h2]) (by omega) (by omega) (hR q _ E s1 _ m2 rfl rfl) htf2 (by have := m3.1; show _ < s1.ntok; omega) (by show qam ts _ = _; rw [a2, if_pos rfl])
     obtain ⟨r, s', e1, e2, e3, e4⟩ := hnext
     rw [qa9]
     generalize lp _ F k = L at e1 ⊢
     subst hF
     refine ⟨r, s', ?_, ?_, e3, e4⟩
     ·have hlw : qa8 .i64 (l + 1) = l + 1 := qbT (by omega) (by omega)
      have hjw := qa7 (show j < 9223372036854775807 by omega)
      unfold s108_1 s108_0
      by_cases h11 : t'.k = 11
      ·by_cases hj0 : j = 0
       ·have hl1 : l' = l + 1 := by
         simp only [l', ← hlab, h11, hj0, decide_true, Bool.and_self, if_true]
        rw [hl1] at m1 hms a1 e1
        subst hj0
        have hz : (Int.ofNat 0 : Int) = 0 := rfl
        have hia0 : iaV 5 (kv t'.ks) (i64 0) = some (Tm.cellsL t'.ks, 0 * 5) := hia
        have hd0 : (0 : Int) < Int.ofNat t'.ks.length := of_lt.2 hj
        have hw1 : qa8 .i64 (0 + 1) = 1 := rfl
        have e1' : L (.sl (0 + 1) (Tm.cellsL (done ++ [(qcz by_ d y u (l + 1)).2])) (.own s7.ntok)) (i64 1) (g + 1) t'.c [u8 0, i64 0, i64 0, i64 0, .sl 0 [] .full] u.c { s1 with toks := ts } = some (r, s') := e1
        simp only [hz, hd0, hia0, hld, Nat.beq_refl, h11, hlw, m1, hms, a1, hw1, qal, qaW, qgC, qaC, qag, qaq, qaE, qaH, decide_true, qaa, cond_true, qav, Option.map_some, Option.bind_some, qab, cnd]
        exact e1'
       ·have hl1 : l' = l := by simp only [l', hj0, decide_false, Bool.and_false, Bool.false_eq_true, if_false]
        rw [hl1] at m1 hms a1 e1
        have hjz : ¬ ((Int.ofNat j : Int) = 0) := by simp only [Int.ofNat_eq_natCast]; omega
        simp only [of_lt.2 hj, hia, hld, Nat.beq_refl, h11, hjz, m1, hms, a1, hjw, qal, qaW, qgC, qaC, qag, qaq, qaE, qaH, decide_true, decide_false, qaa, cond_true, cond_false, qav, Option.map_some, Option.bind_some, qab, cnd]
        exact e1
      ·have hl1 : l' = l := by simp only [l', ← hlab, h11, decide_false, Bool.false_and, Bool.false_eq_true, if_false]
       rw [hl1] at m1 hms a1 e1
       simp only [of_lt.2 hj, hia, hld, Nat.beq_refl, h11, m1, hms, a1, hjw, qal, qaW, qgC, qaC, qag, qaq, qaE, qaH, decide_true, decide_false, qaa, cond_true, cond_false, qav, Option.map_some, Option.bind_some, qab, cnd]
       exact e1
     ·rw [e2]
      simp only [qeU, l', List.append_assoc, List.cons_append, List.nil_append]
   have hfin := key t'.ks [] n 0 0 [] x' { s7 with ntok := s7.ntok + 1, toks := (s7.ntok, 0, 5) :: s7.toks } rfl rfl (by omega) (by omega) (hR q _ E s7 _ b2 rfl rfl) ⟨Nat.le_succ _, fun t ht => by
     show qam ((s7.ntok, 0, 5) :: s7.toks) t = _
     rw [qak, if_neg (by omega)]⟩ (Nat.lt_succ_self _) (by show qam ((s7.ntok, 0, 5) :: s7.toks) _ = _; rw [qak, if_pos rfl])
   obtain ⟨r, s', e1, e2, e3, e4⟩ := hfin
   exact ⟨r, s', e1, e2, e3, b3.trans e4⟩
end
end Go.AI.Tryz
namespace Go.AI
mutual
def Tm.chg (g : Tm → Int → Tm) : Tm → Int → Tm
 | .mk k n m i ks, l => .mk (g (.mk k n m i ks) l).k (g (.mk k n m i ks) l).n (g (.mk k n m i ks) l).m (g (.mk k n m i ks) l).i (Tm.chgK g (decide (k = 11)) l 0 ks)
def Tm.chgK (g : Tm → Int → Tm) (lab : Bool) (l : Int) : Nat → List Tm → List Tm
 | _, [] => []
 | j, u :: r => Tm.chg g u (if lab && decide (j = 0) then l + 1 else l) :: Tm.chgK g lab l (j + 1) r
end
mutual
def Tm.any (is : Tm → Int → Bool) : Tm → Int → Bool
 | .mk k n m i ks, l => is (.mk k n m i ks) l || Tm.anyK is (decide (k = 11)) l 0 ks
def Tm.anyK (is : Tm → Int → Bool) (lab : Bool) (l : Int) : Nat → List Tm → Bool
 | _, [] => false
 | j, u :: r => Tm.any is u (if lab && decide (j = 0) then l + 1 else l) || Tm.anyK is lab l (j + 1) r
end
theorem Tm.chg_eq (g : Tm → Int → Tm) (t : Tm) (l : Int) : t.chg g l = .mk (g t l).k (g t l).n (g t l).m (g t l).i (Tm.chgK g (decide (t.k = 11)) l 0 t.ks) := by cases t; simp only [Tm.chg]; rfl
theorem Tm.any_eq (is : Tm → Int → Bool) (t : Tm) (l : Int) : t.any is l = (is t l || Tm.anyK is (decide (t.k = 11)) l 0 t.ks) := by cases t; simp only [Tm.any]; rfl
section
variable {σ : Type}
theorem qfT (g : Tm → Int → Tm) (hg : ∀ t l, (g t l).ks = t.ks ∧ (g t l).k = t.k) : ∀ (d : Nat) (x : σ) (t : Tm) (l : Int), t.size ≤ d → qcz (fun x t l => (x, g t l, true)) d x t l = (x, t.chg g l)
 | 0, x, t, l, h => by have := Tm.size_pos t; omega
 | d + 1, x, t, l, h => by
  have hk : ∀ (ks : List Tm) (j : Nat), (∀ u ∈ ks, u.size ≤ d) → qeU (qcz (fun x t l => (x, g t l, true)) d) (decide (t.k = 11)) l j x ks = (x, Tm.chgK g (decide (t.k = 11)) l j ks) := by
   intro ks
   induction ks with
   | nil => intro j _; rfl
   | cons u r ih =>
    intro j hu
    simp only [qeU, Tm.chgK]
    rw [qfT g hg d x u _ (hu u (List.mem_cons_self ..)), ih (j + 1) fun v hv => hu v (List.mem_cons_of_mem _ hv)]
  simp only [qcz, if_true]
  rw [(hg t l).1, (hg t l).2, hk t.ks 0 (fun u hu => by
   have := Tm.sizeL_mem hu
   rw [Tm.size_ks t] at h; omega), Tm.chg_eq]
  rfl
theorem qot : ∀ (d : Nat) (t : Tm) (l : Int), t.size ≤ d → t.chg (fun t _ => t) l = t
 | 0, t, l, h => by have := Tm.size_pos t; omega
 | d + 1, t, l, h => by
  have hk : ∀ (ks : List Tm) (j : Nat), (∀ u ∈ ks, u.size ≤ d) → Tm.chgK (fun t _ => t) (decide (t.k = 11)) l j ks = ks := by
   intro ks
   induction ks with
   | nil => intro j _; rfl
   | cons u r ih =>
    intro j hu
    simp only [Tm.chgK]
    rw [qot d u _ (hu u (List.mem_cons_self ..)), ih (j + 1) fun v hv => hu v (List.mem_cons_of_mem _ hv)]
  rw [Tm.chg_eq, hk t.ks 0 (fun u hu => by
   have := Tm.sizeL_mem hu
   rw [Tm.size_ks t] at h; omega)]
  cases t; rfl
end
def qdt {τ : Type} (is : τ → Tm → Int → τ × Bool) : τ × Bool → Tm → Int → (τ × Bool) × (Tm × Bool) := fun x t l => if x.2 then (x, t, false) else (is x.1 t l, t, !(is x.1 t l).2)
theorem ql1 (is : Tm → Int → Bool) : ∀ (d : Nat) (x : Unit × Bool) (t : Tm) (l : Int), t.size ≤ d → (qcz (qdt fun y t l => (y, is t l)) d x t l).1 = ((), x.2 || t.any is l)
 | 0, x, t, l, h => by have := Tm.size_pos t; omega
 | d + 1, x, t, l, h => by
  obtain ⟨⟨⟩, f⟩ := x
  have hk : ∀ (ks : List Tm) (j : Nat) (f : Bool), (∀ u ∈ ks, u.size ≤ d) → (qeU (qcz (qdt fun y t l => (y, is t l)) d) (decide (t.k = 11)) l j ((), f) ks).1 = ((), f || Tm.anyK is (decide (t.k = 11)) l j ks) := by
   intro ks
   induction ks with
   | nil => intro j f _; simp only [qeU, Tm.anyK, Bool.or_false]
   | cons u r ih =>
    intro j f hu
    simp only [qeU, Tm.anyK]
    rw [ql1 is d _ u _ (hu u (List.mem_cons_self ..)), ih (j + 1) _ fun v hv => hu v (List.mem_cons_of_mem _ hv)]
    simp only [Bool.or_assoc]
  rw [Tm.any_eq]
  unfold qcz
  cases f with
  | true => simp only [qdt, if_true, Bool.false_eq_true, if_false, Bool.true_or]
  | false =>
   simp only [qdt, Bool.false_eq_true, if_false, Bool.false_or]
   cases hi : is t l with
   | true => simp only [Bool.not_true, Bool.false_eq_true, if_false, Bool.true_or]
   | false =>
    simp only [Bool.not_false, if_true, Bool.false_or]
    rw [hk t.ks 0 false (fun u hu => by
     have := Tm.sizeL_mem hu
     rw [Tm.size_ks t] at h; omega)]
    simp only [Bool.false_or]
end Go.AI
namespace Go.AI.Tryz
theorem qcX (t : Tm) (b : Bool) : qaA (.tuple [t.v, bl b]) = .tuple [t.v, bl b] := by rw [Tm.v_eq]; rfl
theorem qdd (lo : Nat) (t : Tm) (b : Bool) : qd0 lo (.tuple [t.v, bl b]) = true := by rw [Tm.v_eq]; rfl
theorem qou {n : Nat} (hn : 1 ≤ n) (E : qaJ) (f : Nat) (a b : AVal) (s : ASt) : clv (qae CP n E) (.p (.func f [] [])) [a, b] s = cl (qae CP n E) f [a, b] s := qeI CP hn E f [a, b] s
end Go.AI.Tryz
namespace Go.AI.Tryz
def UC {ι : Type} (f : Nat) (args : ι → List AVal) (C : ι → qaJ → ASt → Prop) (r : ι → AVal) : Prop := Ev fun n => ∀ p E s, C p E s → cl (qae CP n E) f (args p) s = some (r p, s)
theorem UC.of {ι : Type} {f np : Nat} {cf : CF} {args : ι → List AVal} {C : ι → qaJ → ASt → Prop} {r' : ι → AVal} (hcf : CP f = some cf) (hfl : flP cf np = true) (hl : ∀ p, (args p).length = np) (ha : ∀ p, (args p).all qbj = true) (hargs : ∀ p, (args p).map qaA = args p) (hC : ∀ p, Stab (C p))
  (hpl : ∀ p lo, qd0 lo (r' p) = true) (hb : Ev fun n => ∀ p E s, C p E s → ∃ r s', qat cf (qae CP n E) n (args p) s = some (r, s') ∧ qaA r = r' p) : UC f args C r' := by
 refine Ev.succ (hb.mono fun n h p E s hc => ?_)
 obtain ⟨r, s', h, hv⟩ := h p (s.heap ++ E) { s with heap := [], toks := [] } (hC p E s hc)
 rw [qbL]
 exact qgq hcf hfl (hl p) (ha p) (hargs p) h hv (hpl p _)
theorem Stab.pure (P : Prop) : Stab fun _ _ => P := fun _ _ h => h
abbrev Q := Tm × Int
abbrev qa (p : Q) : List AVal := [p.1.v, i64 p.2]
theorem qk2 (p : Q) : (qa p).all qbj = true := by simp only [List.all_cons, qan]; rfl
theorem qiz (p : Q) : (qa p).map qaA = qa p := by simp only [List.map_cons, qao]; rfl
theorem qov {f : Nat} {g : Tm → Int → Tm × Bool} {Ad : Tm → Prop} {d : Nat} (h : UC f qa (fun p _ _ => Ad p.1 ∧ 0 ≤ p.2) (fun p => .tuple [(g p.1 p.2).1.v, bl (g p.1 p.2).2])) :
  Ev fun n => ∀ _ : Unit, ByC (fun (_ : Unit) _ _ => True) (fun x t l => (x, g t l)) (.p (.func f [] [])) Ad n d := by
 refine (h.and (Ev.ge 1)).mono fun n ⟨h, hn⟩ _ x E s t l h1 h2 h3 h4 _ => ⟨s, ?_, trivial, TF.refl s⟩
 rw [qou hn]
 exact h (t, l) E s ⟨h2, h3⟩
theorem qjU : UC 109 qa (fun p _ _ => True ∧ 0 ≤ p.2) (fun p => .tuple [p.1.v, bl true]) := by
 refine UC.of (cf := cf109) (np := 2) (by kernel_rfl) (by kernel_rfl) (fun _ => rfl) qk2 qiz (fun _ => Stab.pure _) (fun p lo => qdd lo _ _) (Ev.of fun n p E s _ => ⟨.tuple [p.1.v, bl true], s, (s109_eq _ _ _ _ _).trans ?_, qcX _ _⟩)
 unfold s109
 simp only [qal, qaW, qaC, Option.bind_some]
end Go.AI.Tryz
namespace Go.AI.Tryz
theorem ql2 (t : Tm) (hs : t.size ≤ 900000) : PC CP 60 [t.v] t.v := by
 refine PC.of2 (cf := cf60) (np := 1) (args' := [t.v]) (by kernel_rfl) (by kernel_rfl) rfl (by simp only [List.all_cons, qan]; rfl) (by simp only [List.map_cons, qao]; rfl) (fun lo => qaV lo _)
  ((qds (R := fun _ _ _ _ => True) (fv := fun _ => _) (fun _ _ _ _ _ _ _ _ => trivial) (fun _ => rfl) (fun _ => rfl) (fun _ t _ _ _ => ⟨Nat.le_refl _, fun _ _ => trivial⟩) t.size (qov (g := fun t _ => (t, true)) (Ad := fun _ => True) (d := t.size) qjU)).mono fun n h E s => ?_)
 obtain ⟨s', h', _, _⟩ := h () () E s t 0 (Nat.le_refl _) trivial (by omega) (by omega) trivial
 have e := qfT (σ := Unit) (fun t _ => t) (fun _ _ => ⟨rfl, rfl⟩) t.size () t 0 (Nat.le_refl _)
 rw [show (fun (x : Unit) (t : Tm) (l : Int) => (x, (fun (t : Tm) (_ : Int) => (t, true)) t l)) = fun x t l => (x, (fun (t : Tm) (_ : Int) => t) t l, true) from rfl, e, qot t.size t 0 (Nat.le_refl _)] at h'
 refine ⟨t.v, s', (s60_eq _ _ _ _).trans ?_, qao _⟩
 unfold s60
 simp only [h', qal, qaW, qaC, Option.bind_some, qab]
def qc1 (t : Tm) (l : Int) : Tm := if t.k = 12 ∧ l < t.n then .mk t.k (t.n - 1) t.m t.i t.ks else t
theorem qgG (t : Tm) (l : Int) : (qc1 t l).ks = t.ks ∧ (qc1 t l).k = t.k := by unfold qc1; split <;> exact ⟨rfl, rfl⟩
theorem qtA (t : Tm) : Tm.mk t.k t.n t.m t.i t.ks = t := by cases t; rfl
theorem qtB : UC 190 qa (fun p _ _ => p.1.Ok ∧ 0 ≤ p.2) (fun p => .tuple [(qc1 p.1 p.2).v, bl true]) := by
 refine UC.of (cf := cf190) (np := 2) (by kernel_rfl) (by kernel_rfl) (fun _ => rfl) qk2 qiz (fun _ => Stab.pure _) (fun p lo => qdd lo _ _) (Ev.of fun n p E s ⟨hok, hl⟩ => ⟨.tuple [(qc1 p.1 p.2).v, bl true], s, (s190_eq _ _ _ _ _).trans ?_, qcX _ _⟩)
 obtain ⟨t, l⟩ := p
 simp only at hok hl ⊢
 unfold s190 s190_1 s190_0 qc1
 by_cases hk : t.k = 12
 ·by_cases hn : l < t.n
  ·have hn2 : t.n ≤ 9223372036854775807 := by cases hok with | mk _ hn' _ _ _ _ => exact hn'.2
   have hw : qa8 .i64 (t.n - 1) = t.n - 1 := qbT (by omega) (by omega)
   have ho : ∀ z : Int, over t.c 1 [i64 z] = some (Tm.mk t.k z t.m t.i t.ks).c := fun _ => rfl
   simp only [hk, hn, hw, qbh, ho, and_self, if_true, qal, qaW, qgC, qsx, qaC, qag, qaq, qbe, qbP, decide_true, qaa, cond_true, cond_false, qav, Option.map_some, Option.bind_some]
  ·simp only [hk, hn, and_false, if_false, qal, qaW, qgC, qsx, qaC, qag, qaq, qbe, qbP, decide_true, decide_false, qaa, cond_true, cond_false, qav, Option.map_some, Option.bind_some]
 ·simp only [hk, false_and, if_false, qal, qaW, qgC, qsx, qaC, qag, qaq, qbe, qbP, decide_false, qaa, cond_false, qav, Option.map_some, Option.bind_some]
def Tm.unl (t : Tm) : Tm := t.chg qc1 0
theorem qjV (t : Tm) (hok : t.Ok) (hs : t.size ≤ 900000) : PC CP 157 [t.v] (Tm.unl t).v := by
 refine PC.of2 (cf := cf157) (np := 1) (args' := [t.v]) (by kernel_rfl) (by kernel_rfl) rfl (by simp only [List.all_cons, qan]; rfl) (by simp only [List.map_cons, qao]; rfl) (fun lo => qaV lo _)
  ((qds (R := fun _ _ _ _ => True) (fv := fun _ => _) (fun _ _ _ _ _ _ _ _ => trivial) (fun _ => rfl) (fun _ => rfl) (fun _ t l h _ => ⟨by simp only [Tm.size_ks, (qgG t l).1]; omega, fun u hu => by rw [(qgG t l).1] at hu; exact h.kids u hu⟩) t.size (qov (g := fun t l => (qc1 t l, true)) (Ad := Tm.Ok) (d := t.size) qtB)).mono fun n h E s => ?_)
 obtain ⟨s', h', _, _⟩ := h () () E s t 0 (Nat.le_refl _) hok (by omega) (by omega) trivial
 have e := qfT (σ := Unit) qc1 qgG t.size () t 0 (Nat.le_refl _)
 rw [e] at h'
 refine ⟨(Tm.unl t).v, s', (s157_eq _ _ _ _).trans ?_, qao _⟩
 unfold s157
 have h'' : cl (qae CP n E) 108 [t.v, i64 0, .p (.func 190 [] [])] s = some ((Tm.unl t).v, s') := h'
 simp only [h'', qal, qaW, qaC, Option.bind_some, qab]
end Go.AI.Tryz
namespace Go.AI.Tryz
theorem qaT {E : qaJ} {s : ASt} {l : Nat} {cs : List AVal} {H : qaJ} (h : s.heap = (l, .cells cs) :: H) : qaj E s l = some cs := by
 unfold qaj
 simp only [h, qam, qaz rfl, cond_true]
theorem beq_false {a b : Nat} (h : a ≠ b) : Nat.beq a b = false := by
 cases hb : Nat.beq a b with
 | false => rfl
 | true => exact absurd (beq_iff.1 hb) h
theorem qa0 {E : qaJ} {s : ASt} {l m : Nat} {o : HObj} {H : qaJ} (h : s.heap = (m, o) :: H) (hne : m ≠ l) : qaj E s l = qaj E { s with heap := H } l := by
 unfold qaj
 simp only [h, qam, beq_false hne, cond_false]
theorem qux {s : ASt} {l : Nat} {zs cs new : List AVal} {H : qaJ} {o : Nat} (h : s.heap = (l, .cells zs) :: H) (ha : cs.all qaK = true) (ho : over zs o cs = some new) : stH s (.ptr l o) cs = some { s with heap := (l, .cells new) :: H } := by
 unfold stH qbu
 simp only [h, qam, qaF, qaz rfl, cond_true, ha, ho, Option.bind_some, Option.map_some]
section
variable {ι τ : Type} {isv : ι → AVal} {is : τ → Tm → Int → τ × Bool} {C : ι → τ → qaJ → qaJ → Nat → Prop} {Ad : Tm → Prop}
def IsC (isv : ι → AVal) (is : τ → Tm → Int → τ × Bool) (C : ι → τ → qaJ → qaJ → Nat → Prop) (Ad : Tm → Prop) (n d : Nat) : Prop :=
 ∀ p y E H N a b s t l, t.size ≤ d → Ad t → 0 ≤ l → s.heap = (N + 1, a) :: (N, b) :: H → s.next = N + 2 → C p y E H N →
  ∃ s' H', clv (qae CP n E) (isv p) [t.v, i64 l] s = some (bl (is y t l).2, s') ∧ s'.heap = (N + 1, a) :: (N, b) :: H' ∧ s'.next = N + 2 ∧ C p (is y t l).1 E H' N ∧ TF s s'
def qvg (isv : ι → AVal) (C : ι → τ → qaJ → qaJ → Nat → Prop) (p : ι) (N : Nat) : τ × Bool → qaJ → ASt → Prop := fun x E s =>
 ∃ H, s.heap = (N + 1, .cells [bl x.2]) :: (N, .cells [isv p]) :: H ∧ s.next = N + 2 ∧ C p x.1 E H N
theorem ql3 {n : Nat} {E : qaJ} {s : ASt} {l : Nat} {b : Bool} (h : qaj (qae CP n E).E s l = some [bl b]) (L1 L2 L3 L4 L5 L6 : LL) :
  okV (qae CP n E) [(L1, s), (L2, s), (L3, s), (L4, s), (L5, s), (L6, s)] (.ptr l 0) 1 [(3, 0)] = true := by
 have hl : loadFrom (qae CP n E).E .nil s (.ptr l 0) 1 = some [bl b] := by
  simp only [loadFrom, h, Option.bind_some]
  rfl
 have h4 : ∀ L, qkx (qae CP n E) L s (.ptr l 0) 1 = some [bl b] := fun L => hl
 have e3 : qeb [(L1, s), (L2, s), (L3, s), (L4, s), (L5, s), (L6, s)] 3 = some (L4, s) := rfl
 have e4 : qeb [(L1, s), (L2, s), (L3, s), (L4, s), (L5, s), (L6, s)] (3 + 1) = some (L5, s) := rfl
 have hs : qaX (some [bl b]) (some [bl b]) = true := by simp only [qaX, qdi, qiq, Bool.and_self]
 simp only [okV, List.all_cons, List.all_nil, okJ, e3, e4, h4, hs, Bool.or_true, Bool.and_self]
theorem qr0 (ha : ∀ p, qaK (isv p) = true) (hcell : ∀ p, ldL [isv p] 0 none = some (isv p)) (d : Nat) (his : Ev fun n => IsC isv is C Ad n d) : Ev fun n => ∀ p N, ByC (qvg isv C p N) (qdt is) (.func 191 [] [.ptr (N + 1) 0, .ptr N 0]) Ad n d := by
 refine Ev.succ ((his.and (Ev.ge 1)).mono fun n ⟨h, hn⟩ p N x E s t l h1 h2 h3 h4 ⟨H, r1, r2, r3⟩ => ?_)
 rw [qg7 CP (by omega)]
 simp only [List.nil_append, List.cons_append]
 have hc7 : ∀ m E', qaj (qae CP m E').E s (N + 1) = some [bl x.2] := fun m E' => qaT r1
 have hc5 : ∀ m E', qaj (qae CP m E').E s N = some [isv p] := fun m E' => by
  rw [qa0 r1 (by omega)]
  exact qaT (s := { s with heap := (N, .cells [isv p]) :: H }) rfl
 suffices ∃ s', s191 (qae CP n E) n t.v (i64 l) (.ptr (N + 1) 0) (.ptr N 0) s = some (.tuple [(qdt is x t l).2.1.v, bl (qdt is x t l).2.2], s') ∧ qvg isv C p N (qdt is x t l).1 E s' ∧ TF s s' by
  obtain ⟨s', e1, e2, e3⟩ := this
  refine ⟨s', ?_, e2, e3⟩
  rw [qbL]
  exact qe4 (cf := cf191) (np := 4) (args' := [t.v, i64 l, .ptr (N + 1) 0, .ptr N 0]) (by kernel_rfl) (by kernel_rfl) rfl (by simp only [List.all_cons, qan]; rfl) (by simp only [List.map_cons, qao]; rfl) ((s191_eq _ _ _ _ _ _ _).trans e1) (qcX _ _) (by rw [Tm.v_eq]; rfl)
 obtain ⟨y, f⟩ := x
 unfold s191 s191_0 qdt
 cases f with
 | true =>
  have hst := qux (cs := [bl true]) (new := [bl true]) (o := 0) r1 rfl rfl
  have hs : ({ s with heap := (N + 1, .cells [bl true]) :: (N, .cells [isv p]) :: H } : ASt) = s := by rw [← r1]
  rw [hs] at hst
  refine ⟨s, ?_, ⟨H, r1, r2, r3⟩, TF.refl s⟩
  simp only [ldP (hc7 n E), qb4, qbd, hst, ql3 (hc7 n E), Bool.and_true, if_true, qal, qaW, qaC, Bool.not_true, qaa, cond_true, qav, Option.bind_some, qau, cnd]
 | false =>
  obtain ⟨s', H', i1, i2, i3, i4, i5⟩ := h p y E H N (.cells [bl false]) (.cells [isv p]) s t l h1 h2 h3 r1 r2 r3
  have hst := qux (cs := [bl (is y t l).2]) (new := [bl (is y t l).2]) (o := 0) i2 rfl rfl
  have hc' : qaj (qae CP n E).E { s' with heap := (N + 1, .cells [bl (is y t l).2]) :: (N, .cells [isv p]) :: H' } (N + 1) = some [bl (is y t l).2] := qaT rfl
  refine ⟨{ s' with heap := (N + 1, .cells [bl (is y t l).2]) :: (N, .cells [isv p]) :: H' }, ?_, ⟨H', rfl, i3, i4⟩, i5⟩
  have hok := ql3 hc'
  simp only [ldP (hc7 n E), ldP (hc5 n E), ldP hc', qb4, hcell p, i1, qbd, hst, hok, Bool.and_true, Bool.false_eq_true, if_false, qal, qaW, qaC, qaa, cond_false, qav, Option.bind_some, qab, qau, cnd]
theorem qgH (ha : ∀ p, qaK (isv p) = true) (hw : ∀ p, qbj (isv p) = true) (hce : ∀ p, AVal.cells none (isv p) = some [isv p]) (he : ∀ p, qaA (isv p) = isv p) (t : Tm) (hs : t.size ≤ 900000) (hAd : Ad t) (hk : ∀ t, Ad t → ∀ u ∈ t.ks, Ad u) (his : Ev fun n => IsC isv is C Ad n t.size)
  (hC : ∀ p y E H N N', C p y E H N → N ≤ N' → C p y E H N') :
  Ev fun n => ∀ p y E s, C p y E s.heap s.next → ∃ s' H', cl (qae CP n E) 159 [t.v, isv p] s = some (bl (qcz (qdt is) t.size (y, false) t 0).1.2, s') ∧ s'.heap = (s.next + 1, .cells [bl (qcz (qdt is) t.size (y, false) t 0).1.2]) :: (s.next, .cells [isv p]) :: H' ∧ C p (qcz (qdt is) t.size (y, false) t 0).1.1 E H' s.next ∧ s'.next = s.next + 2 ∧ TF s s' := by
 have hcell : ∀ p, ldL [isv p] 0 none = some (isv p) := fun p => rfl
 have hby := qr0 ha hcell t.size his
 have hmap := qds (κ := ι × Nat) (R := fun q => qvg isv C q.1 q.2) (fv := fun q => .func 191 [] [.ptr (q.2 + 1) 0, .ptr q.2 0]) (by_ := qdt is) (Ad := Ad) (fun q x E s s' ⟨H, r1, r2, r3⟩ e1 e2 => ⟨H, by rw [e1]; exact r1, by rw [e2]; exact r2, r3⟩) (fun _ => rfl) (fun _ => rfl)
  (fun x t l hA hgo => by
   unfold qdt at hgo ⊢
   split
   ·rename_i hx
    rw [if_pos hx] at hgo
    cases hgo
   ·exact ⟨Nat.le_refl _, hk t hA⟩) t.size (hby.mono fun n h q => h q.1 q.2)
 refine Ev.succ (hmap.mono fun n h p y E s hc => ?_)
 obtain ⟨s', e1, ⟨H', r1, r2, r3⟩, e3⟩ := h (p, s.next) (y, false) E (qaf (qaf s (.cells [isv p])) (.cells [bl false])) t 0 (Nat.le_refl _) hAd (by omega) (by omega) ⟨s.heap, rfl, rfl, hc⟩
 generalize (qcz (qdt is) t.size (y, false) t 0).1 = q at e1 r1 r3 ⊢
 refine ⟨s', H', ?_, r1, r3, r2, e3⟩
 rw [qbL]
 refine qe4 (cf := cf159) (np := 2) (args' := [t.v, isv p]) (v := bl q.2) (by kernel_rfl) (by kernel_rfl) rfl (by simp only [List.all_cons, qan, hw]; rfl) (by simp only [List.map_cons, qao, he]; rfl) ((s159_eq _ _ _ _ _).trans ?_) rfl rfl
 have h' : cl (qae CP n E) 108 [t.v, i64 0, .func 191 [] [.ptr (qaf s (.cells [isv p])).next 0, .ptr s.next 0]] (qaf (qaf s (.cells [isv p])) (.cells [bl false])) = some (_, s') := e1
 have hst : stH (qaf (qaf s (.cells [isv p])) (.cells [bl false])) (.ptr (qaf s (.cells [isv p])).next 0) [bl false] = some (qaf (qaf s (.cells [isv p])) (.cells [bl false])) := qg8 _ _ _ _ _ rfl rfl
 have hc7 : qaj (qae CP n E).E s' (qaf s (.cells [isv p])).next = some [bl q.2] := qaT r1
 have haw : [isv p].all qaK = true := by simp only [List.all_cons, ha, List.all_nil, Bool.and_self]
 have haw2 : [bl false].all qaK = true := rfl
 unfold s159
 simp only [hce, haw, qbd, hst, h', ldP hc7, qb4, qal, qaW, Option.bind_some, qab, qaS, qbg, cnd]
end
theorem ql4 (is : Tm → Int → Bool) (t : Tm) : (qcz (qdt fun (y : Unit) t l => (y, is t l)) t.size ((), false) t 0).1.2 = t.any is 0 := by
 rw [ql1 is t.size ((), false) t 0 (Nat.le_refl _)]
 exact Bool.false_or _
def qfs (t : Tm) (l : Int) : Bool := decide (t.k = 12) && decide (t.n = l)
def qjW (t : Tm) : Bool := t.any qfs 0
theorem lead1_u : UC 189 qa (fun p _ _ => True) (fun p => bl (qfs p.1 p.2)) := by
 refine UC.of (cf := cf189) (np := 2) (by kernel_rfl) (by kernel_rfl) (fun _ => rfl) qk2 qiz (fun _ => Stab.pure _) (fun p lo => rfl) (Ev.of fun n p E s _ => ⟨bl (qfs p.1 p.2), s, (s189_eq _ _ _ _ _).trans ?_, rfl⟩)
 unfold s189 s189_0 qfs
 simp only [qal, qgC, qsx, qag, qaq, qaa, qav, Option.map_some, Option.bind_some]
 by_cases hk : p.1.k = 12 <;> simp only [hk, Bool.true_and, Bool.false_and, decide_true, decide_false, cond_true, cond_false]
theorem qr1 (t : Tm) (hs : t.size ≤ 900000) : PC CP 155 [t.v] (bl (qjW t)) := by
 have his : Ev fun n => IsC (ι := Unit) (fun _ => .p (.func 189 [] [])) (fun (y : Unit) t l => (y, qfs t l)) (fun _ _ _ _ _ => True) (fun _ => True) n t.size := by
  refine (lead1_u.and (Ev.ge 1)).mono fun n ⟨h, hn⟩ p y E H N a b s t l _ _ _ h1 h2 _ => ⟨s, H, ?_, h1, h2, trivial, TF.refl s⟩
  rw [qou hn]
  exact h (t, l) E s trivial
 refine PC.of2 (cf := cf155) (np := 1) (args' := [t.v]) (by kernel_rfl) (by kernel_rfl) rfl (by simp only [List.all_cons, qan]; rfl) (by simp only [List.map_cons, qao]; rfl) (fun lo => rfl)
  ((qgH (C := fun _ _ _ _ _ => True) (Ad := fun _ => True) (fun _ => rfl) (fun _ => rfl) (fun _ => rfl) (fun _ => rfl) t hs trivial (fun _ _ _ _ => trivial) his (fun _ _ _ _ _ _ h _ => h)).mono fun n h E s => ?_)
 obtain ⟨s', H', e, _⟩ := h () () E s trivial
 rw [ql4] at e
 refine ⟨bl (qjW t), s', (s155_eq _ _ _ _).trans ?_, rfl⟩
 unfold s155
 have e' : cl (qae CP n E) 159 [t.v, .p (.func 189 [] [])] s = some (bl (qjW t), s') := e
 simp only [e', qal, qaW, Option.bind_some, qab]
def qgI (t : Tm) : Option Tm := if t.k = 11 then (match t.ks with | [u, w] => if !qjW u then some (Tm.unl u) else none | _ => none) else none
theorem qqa (x : Sc) (u w : Tm) (hok : u.Ok) (hs : u.size ≤ 900000) : IC 156 (fun l => [.ptr l 0]) (C1 (vw x (.lbl u w)).c) (Tm.unl u).v := by
 refine IC.of (cf := cf156) (np := 1) (args' := fun l => [.ptr l 0]) (by kernel_rfl) (by kernel_rfl) (fun _ => rfl) (fun _ => rfl) (fun _ => rfl) (fun l => Stab.at l _) (fun lo => qaV lo _) ((qjV u hok hs).mono fun N h l E s hc => ⟨(Tm.unl u).v, s, (s156_eq _ _ _ _).trans ?_, qao _⟩)
 obtain ⟨i0, l0⟩ := qcT (n := N) (E := E) (l := [u, w]) (u := u) rfl
 have hc' : qaj (qae CP N E).E s l = some (vw x (.lbl u w)).c := by rw [qaQ]; exact hc
 unfold s156
 simp only [ldP hc', Nat.zero_add, i0, l0, h, qal, qaW, qaC, qbV, vwt, Option.bind_some, qab, qbH, Tm.ks_mk]
theorem qr2 (x : Sc) (t : Tm) (g : Gd x t) (hs : t.size ≤ 900000) : RuC 89 x t (qgI t) := by
 by_cases hk : t.k = 11
 ·cases g.sh with
  | lbl u w =>
   have e : qgI (.lbl u w) = if !qjW u then some (Tm.unl u) else none := rfl
   rw [e]
   have ou := g.ok.kids u (by simp [Tm.ks])
   have su : u.size < (Tm.lbl u w).size := qa4 (by simp [Tm.ks])
   refine RuC.of (cf := cf89) (by kernel_rfl) (by kernel_rfl) (((qcW (vw x (.lbl u w)) 11).and ((qr1 u (by omega)).and (qcE (!qjW u) 156 (fun l => [.ptr l 0]) (fun _ => rfl) (C1 (vw x (.lbl u w)).c) (fun l => Stab.at l _) _ fun h => qqa x u w ou (by omega)))).mono fun N ⟨h1, h2, h4⟩ E s => ?_)
   obtain ⟨i0, l0⟩ := qcT (n := N) (E := E) (l := [u, w]) (u := u) rfl
   have hw := fun (s : ASt) => h4 s.next E (qaf s (.cells (vw x (.lbl u w)).c)) (qaI _ _ _)
   refine ⟨qaf s (.cells (vw x (.lbl u w)).c), (s89_eq _ _ _ _).trans ?_⟩
   unfold s89 s89_0
   clear e
   simp only [h1, i0, l0, h2, hw, qal, qaW, qaC, qay, qbR, qbV, qcI, vwt, decide_true, qaa, cond_true, qav, Option.bind_some, qab, qah, qar, qas, qau, qaS, qbg, cnd, qci, Tm.k_mk, Tm.ks_mk, qaw]
  | _ => simp only [Tm.k_mk] at hk; omega
 ·have e : qgI t = none := by unfold qgI; rw [if_neg hk]
  rw [e]
  refine RuC.of (cf := cf89) (by kernel_rfl) (by kernel_rfl) (((qcW (vw x t) 11).and (qcE false 156 (fun l => [.ptr l 0]) (fun _ => rfl) (C1 (vw x t).c) (fun l => Stab.at l _) .z fun h => nomatch h)).mono fun N ⟨h1, h3⟩ E s => ?_)
  have hw := fun (s : ASt) => h3 s.next E (qaf s (.cells (vw x t).c)) (qaI _ _ _)
  refine ⟨qaf s (.cells (vw x t).c), (s89_eq _ _ _ _).trans ?_⟩
  unfold s89 s89_0
  simp only [h1, hw, hk, Bool.false_eq_true, if_false, qal, qaW, qaC, qay, qbR, qbV, qcI, vwt, decide_false, qaa, cond_false, qav, Option.bind_some, qab, qah, qar, qas, qaS, qbg, cnd, qci, qaw, Option.getD_none, Option.isSome_none]
end Go.AI.Tryz
