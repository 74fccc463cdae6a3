/- Part 6 of an interpreter for the code of the model, proved sound: what a run says of the program; tables; the same evaluator made for the kernel. No condition. -/
import Derived.Test.YtgecccghlgpmjaaGreatAi5
import Derived.RowKit3
import Derived.Test.YtgecccghlgpmjaaGreatAi1
set_option linter.unusedVariables false
set_option linter.unusedSimpArgs false
/- What a run of the interpreter says of the program. -/
namespace Go.AI
variable {P : Program}

def G00 : Gh := ⟨fun _ => .free, fun _ => none, fun _ _ => none, 0, 0⟩
def s00 : ASt := ⟨0, [], 0, []⟩
theorem mr00 (P : Program) (w : World) : MR P [] (fun _ => none) (fun _ => none) .nil s00 G00 w :=
  ⟨fun b hb => absurd rfl hb, fun k b h => (by cases h), Nat.le_refl _, fun k zs h => (by cases h), fun i zs h => (by cases h), rfl, fun i g cs h hg _ => (by cases h; exact absurd rfl hg), fun i g b h => (by cases h), fun k o h => (by cases h), fun k o h => (by cases h),
    fun t n sz h => (by cases h), fun b t n sz h => (by cases h), fun b b' t n n' sz sz' h => (by cases h)⟩
theorem grown_of {G : Gh} {w w' : World} (x : Ext G00 w G w') : RowKit.Grown w w' := by
  refine ⟨⟨x.os, x.output, fun i hi => ?_⟩, x.cold, x.size⟩
  rw [(x.still i hi trivial).1]
  split <;> simp_all
theorem top_ok {CP : Nat → Option CF} (pk : ProgOK P CP) {n f : Nat} {args : List AVal} {v : AVal} {s' : ASt} (h : (mkEnv CP n []).call f args s00 = some (v, s')) {w : World} {vs : Array Value} (ha : VRs G00 w args vs.toList) :
    Calls P f vs w fun e w' => ∃ u, e = .returned u ∧ RowKit.Grown w w' ∧ ∃ G', Ext G00 w G' w' ∧ VR G' w' v u := by
  cases n with
  | zero => cases h
  | succ n =>
    have ih := env_ok pk n
    have h' : applyF CP (mkEnv CP n) n [] f args s00 = some (v, s') := h
    obtain ⟨h1, h2⟩ := applyF_ok pk ih h' (mr00 P w) ha
    rw [h1] at h2
    refine (callsIn_wide (n := 0)).1 (CallsIn.mono h2 fun e w' ⟨u, he, G', x, _, hv⟩ => ⟨u, he, grown_of x, G', x, hv⟩)
theorem closed_ok {CP : Nat → Option CF} (pk : ProgOK P CP) {n f : Nat} {b : Bool} {s' : ASt} (h : (mkEnv CP n []).call f [] s00 = some (.p (.bool b), s')) (w : World) : Calls P f #[] w fun e w' => e = .returned (.bool b) ∧ RowKit.Grown w w' := by
  have := top_ok pk h (w := w) (vs := #[]) VRs.nil
  exact Calls.mono this fun e w' ⟨u, he, hg, G', _, hv⟩ => ⟨by rw [he, hv.bool_inv], hg⟩
end Go.AI

/- A program's table of functions. -/
namespace Go.AI
variable {P : Program}
def Good (P : Program) (f : Nat) (c : Option CF) : Prop := ∀ cf, c = some cf → ∃ fn fl, P.funcs[f]? = some fn ∧ cFunc P fl fn = some cf ∧ (fn.name == "runtime.NumGoroutine") = false
theorem Good.none (P : Program) (f : Nat) : Good P f none := fun _ h => by cases h
/-- i + st * j is the number of the node j of this part of the tree. -/
def TreeOK (P : Program) : Tr (Option CF) → (d i st : Nat) → Prop
  | .node v l r, d + 1, i, st => Good P i v ∧ TreeOK P l d (i + st) (2 * st) ∧ TreeOK P r d (i + 2 * st) (2 * st)
  | .nil, _, _, _ => True
  | .node .., 0, _, _ => False
theorem tree_get : ∀ (t : Tr (Option CF)) (d i st : Nat), TreeOK P t d i st → ∀ j, Good P (i + st * j) (t.get Option.none j)
  | .nil, _, _, _, _, j => Good.none _ _
  | .node v l r, 0, _, _, h, _ => h.elim
  | .node v l r, d + 1, i, st, ⟨h1, h2, h3⟩, j => by
    unfold Tr.get
    cases e1 : Nat.beq j 0 with
    | true =>
      rw [beq_iff.1 e1]
      exact h1
    | false =>
      have h0 : j ≠ 0 := fun e => by rw [beq_true e] at e1; cases e1
      cases e2 : Nat.beq (j % 2) 1 with
      | true =>
        have h4 : j % 2 = 1 := beq_iff.1 e2
        have := tree_get l d _ _ h2 (j / 2)
        have e3 : i + st + 2 * st * (j / 2) = i + st * j := by
          have : j = 2 * (j / 2) + 1 := by omega
          calc i + st + 2 * st * (j / 2) = i + st * (2 * (j / 2) + 1) := by rw [Nat.mul_add, Nat.mul_one, ← Nat.mul_assoc, Nat.mul_comm st 2]; omega
            _ = i + st * j := by rw [← this]
        rw [e3] at this
        exact this
      | false =>
        have h4 : j % 2 ≠ 1 := fun e => by rw [beq_true e] at e2; cases e2
        have := tree_get r d _ _ h3 (j / 2 - 1)
        have e3 : i + 2 * st + 2 * st * (j / 2 - 1) = i + st * j := by
          have : j = 2 * (j / 2 - 1) + 2 := by omega
          calc i + 2 * st + 2 * st * (j / 2 - 1) = i + st * (2 * (j / 2 - 1) + 2) := by rw [Nat.mul_add, ← Nat.mul_assoc, Nat.mul_comm st 2]; omega
            _ = i + st * j := by rw [← this]
        rw [e3] at this
        exact this
theorem ProgOK.of_tree {t : Tr (Option CF)} (d : Nat) (h : P.follows .mixedOrders = true) (k : TreeOK P t d 0 1) : ProgOK P (fun n => t.get Option.none n) :=
  ⟨h, fun f cf hf => by
    have := tree_get t d 0 1 k f
    rw [Nat.zero_add, Nat.one_mul] at this
    exact this cf hf⟩
end Go.AI

/- The same evaluator, made for the kernel: recursors, small constants. -/
namespace Go.AI
noncomputable section

def bF {α : Type} (b : Bool) (t f : α) : α := Bool.rec (motive := fun _ => α) f t b
def xF {α : Type} (x : EX) (a : α) (f : Nat → α) (b : α) : α := EX.rec (motive := fun _ => α) a f b x
def getF (t : Tr AVal) : Nat → AVal :=
  Tr.rec (motive := fun _ => Nat → AVal) (fun _ => undefA) (fun v _ _ a b i => bF (Nat.beq i (nat_lit 0)) v (bF (Nat.beq (Nat.mod i (nat_lit 2)) (nat_lit 1)) (a (Nat.div i (nat_lit 2))) (b (Nat.sub (Nat.div i (nat_lit 2)) (nat_lit 1))))) t
theorem getF_eq (t : Tr AVal) : ∀ i, getF t i = t.get undefA i := by
  induction t with
  | nil => intro i; rfl
  | node v l r ihl ihr =>
    intro i
    show bF (Nat.beq i 0) v (bF (Nat.beq (i % 2) 1) (getF l (i / 2)) (getF r (i / 2 - 1))) = _
    unfold Tr.get
    rw [ihl, ihr]
    cases Nat.beq i 0 <;> cases Nat.beq (i % 2) 1 <;> rfl
def setF {α : Type} (t : Tr α) : Nat → α → Tr α :=
  Tr.rec (motive := fun _ => Nat → α → Tr α) (fun _ _ => .nil) (fun v l r a b i x => bF (Nat.beq i (nat_lit 0)) (.node x l r) (bF (Nat.beq (Nat.mod i (nat_lit 2)) (nat_lit 1)) (.node v (a (Nat.div i (nat_lit 2)) x) r) (.node v l (b (Nat.sub (Nat.div i (nat_lit 2)) (nat_lit 1)) x)))) t
theorem setF_eq {α : Type} (t : Tr α) : ∀ i x, setF t i x = t.set i x := by
  induction t with
  | nil => intro i x; rfl
  | node v l r ihl ihr =>
    intro i x
    show bF (Nat.beq i 0) (Tr.node x l r) (bF (Nat.beq (i % 2) 1) (Tr.node v (setF l (i / 2) x) r) (Tr.node v l (setF r (i / 2 - 1) x))) = _
    unfold Tr.set
    rw [ihl, ihr]
    cases Nat.beq i 0 <;> cases Nat.beq (i % 2) 1 <;> rfl
def evA (x : Arg) : Tr AVal → AVal := Arg.rec (motive := fun _ => Tr AVal → AVal) (fun n f => getF f n) (fun v _ => v) x
theorem evA_eq (x : Arg) (f : Tr AVal) : evA x f = x.ev f := by cases x with
  | t n => exact getF_eq f n
  | c v => rfl

abbrev R := Option (AVal × Cfg)
def bindF {α β : Type} (x : Option α) (k : α → Option β) : Option β := Option.rec (motive := fun _ => Option β) none k x
theorem bindF_eq {α β : Type} (x : Option α) (k : α → Option β) : bindF x k = x.bind k := by cases x <;> rfl

def getL (t : Tr (Nat × List AVal)) : Nat → Nat × List AVal :=
  Tr.rec (motive := fun _ => Nat → Nat × List AVal) (fun _ => (0, [])) (fun v _ _ a b i => bF (Nat.beq i (nat_lit 0)) v (bF (Nat.beq (Nat.mod i (nat_lit 2)) (nat_lit 1)) (a (Nat.div i (nat_lit 2))) (b (Nat.sub (Nat.div i (nat_lit 2)) (nat_lit 1))))) t
theorem getL_eq (t : Tr (Nat × List AVal)) : ∀ i, getL t i = t.get (0, []) i := by
  induction t with
  | nil => intro i; rfl
  | node v l r ihl ihr =>
    intro i
    show bF (Nat.beq i 0) v (bF (Nat.beq (i % 2) 1) (getL l (i / 2)) (getL r (i / 2 - 1))) = _
    unfold Tr.get
    rw [ihl, ihr]
    cases Nat.beq i 0 <;> cases Nat.beq (i % 2) 1 <;> rfl
def ldropF {α : Type} (l : List α) : Nat → List α := List.rec (motive := fun _ => Nat → List α) (fun _ => []) (fun x xs ih n => bF (Nat.beq n 0) (x :: xs) (ih (n - 1))) l
theorem ldropF_eq {α : Type} (l : List α) : ∀ n, ldropF l n = ldrop l n := by
  induction l with
  | nil => intro n; rfl
  | cons x xs ih =>
    intro n
    show bF (Nat.beq n 0) (x :: xs) (ldropF xs (n - 1)) = _
    unfold ldrop
    rw [ih]
    cases Nat.beq n 0 <;> rfl
def ltakeF {α : Type} (l : List α) : Nat → List α := List.rec (motive := fun _ => Nat → List α) (fun _ => []) (fun x _ ih n => bF (Nat.beq n 0) [] (x :: ih (n - 1))) l
theorem ltakeF_eq {α : Type} (l : List α) : ∀ n, ltakeF l n = ltake l n := by
  induction l with
  | nil => intro n; rfl
  | cons x xs ih =>
    intro n
    show bF (Nat.beq n 0) [] (x :: ltakeF xs (n - 1)) = _
    unfold ltake
    rw [ih]
    cases Nat.beq n 0 <;> rfl
def lenF {α : Type} (l : List α) : Nat := List.rec (motive := fun _ => Nat) 0 (fun _ _ ih => Nat.succ ih) l
theorem lenF_eq {α : Type} (l : List α) : lenF l = l.length := by
  induction l with
  | nil => rfl
  | cons x xs ih => show Nat.succ (lenF xs) = _; rw [ih]; rfl
def appF {α : Type} (l m : List α) : List α := List.rec (motive := fun _ => List α) m (fun x _ ih => x :: ih) l
theorem appF_eq {α : Type} (l m : List α) : appF l m = l ++ m := by
  induction l with
  | nil => rfl
  | cons x xs ih => show x :: appF xs m = _; rw [ih]; rfl
def cutF {α : Type} (xs : List α) (off n : Nat) : Option (List α) := bF (Nat.ble (off + n) (lenF xs)) (some (ltakeF (ldropF xs off) n)) none
theorem cutF_eq {α : Type} (xs : List α) (off n : Nat) : cutF xs off n = cut xs off n := by
  unfold cutF cut
  rw [lenF_eq, ldropF_eq, ltakeF_eq]
  cases Nat.ble (off + n) xs.length <;> rfl
def overF {α : Type} (xs : List α) (off : Nat) (ys : List α) : Option (List α) := bF (Nat.ble (off + lenF ys) (lenF xs)) (some (appF (ltakeF xs off) (appF ys (ldropF xs (off + lenF ys))))) none
theorem overF_eq {α : Type} (xs : List α) (off : Nat) (ys : List α) : overF xs off ys = over xs off ys := by
  unfold overF over
  rw [lenF_eq, lenF_eq, ldropF_eq, ltakeF_eq, appF_eq, appF_eq]
  cases Nat.ble (off + ys.length) xs.length <;> rfl
def assocF {α : Type} (l : List (Nat × α)) (n : Nat) : Option α := List.rec (motive := fun _ => Option α) none (fun x _ ih => bF (Nat.beq x.1 n) (some x.2) ih) l
theorem assocF_eq {α : Type} (l : List (Nat × α)) (n : Nat) : assocF l n = assoc l n := by
  induction l with
  | nil => rfl
  | cons x xs ih =>
    obtain ⟨k, v⟩ := x
    show bF (Nat.beq k n) (some v) (assocF xs n) = _
    unfold assoc
    rw [ih]
    cases Nat.beq k n <;> rfl
def mapP (l : List PVal) : List AVal := List.rec (motive := fun _ => List AVal) [] (fun x _ ih => .p x :: ih) l
theorem mapP_eq (l : List PVal) : mapP l = l.map .p := by
  induction l with
  | nil => rfl
  | cons x xs ih => show AVal.p x :: mapP xs = _; rw [ih]; rfl
def cellsAtF (E : Heap) (s : ASt) (l : Nat) : Option (List AVal) :=
  match assocF s.heap l with
  | some (.cells cs) => some cs
  | some _ => none
  | none => match assocF E l with
    | some (.cells cs) => some cs
    | _ => none
theorem cellsAtF_eq (E : Heap) (s : ASt) (l : Nat) : cellsAtF E s l = cellsAt E s l := by
  unfold cellsAtF cellsAt
  rw [assocF_eq, assocF_eq]
  cases assoc s.heap l with
  | none =>
    cases assoc E l with
    | none => rfl
    | some o => cases o <;> rfl
  | some o => cases o <;> rfl
def loadFromF (E : Heap) (lo : Tr (Nat × List AVal)) (s : ASt) (a : AVal) (n : Nat) : Option (List AVal) :=
  match a with
  | .lptr i g off => bF (Nat.beq g (getL lo i).1) (cutF (getL lo i).2 off n) none
  | .ptr l off => bindF (cellsAtF E s l) fun cs => cutF cs off n
  | .elem cs off => bindF (cutF cs off n) fun cs => some (mapP cs)
  | _ => none
theorem loadFromF_eq (E : Heap) (lo : Tr (Nat × List AVal)) (s : ASt) (a : AVal) (n : Nat) : loadFromF E lo s a n = loadFrom E lo s a n := by
  cases a <;> try rfl
  · simp only [loadFromF, loadFrom, getL_eq, cutF_eq]
    generalize lo.get (0, []) _ = p
    obtain ⟨g', cs⟩ := p
    simp only
    generalize Nat.beq _ g' = b
    cases b <;> rfl
  · simp only [loadFromF, loadFrom, bindF_eq, cutF_eq, cellsAtF_eq]
  · simp only [loadFromF, loadFrom, bindF_eq, cutF_eq, mapP_eq]
    cases cut _ _ n <;> rfl
def storeToF (c : Cfg) (a : AVal) (cs : List AVal) : Option Cfg :=
  match a with
  | .lptr i g off => bF (Nat.beq g (getL c.l i).1) (bindF (overF (getL c.l i).2 off cs) fun new => some { c with l := setF c.l i ((getL c.l i).1, new) }) none
  | a => storeTo c a cs
theorem storeToF_eq (c : Cfg) (a : AVal) (cs : List AVal) : storeToF c a cs = storeTo c a cs := by
  cases a <;> try rfl
  simp only [storeToF, storeTo, getL_eq, overF_eq, bindF_eq, setF_eq]
  generalize c.l.get (0, []) _ = p
  obtain ⟨g', old⟩ := p
  simp only
  generalize Nat.beq _ g' = b
  cases b
  · rfl
  · show (over old _ cs).bind _ = _
    cases over old _ cs <;> rfl
def mkF {α : Type} (x : α) (d : Nat) : Tr α := Nat.rec (motive := fun _ => Tr α) .nil (fun _ t => .node x t t) d
theorem mkF_eq {α : Type} (x : α) (d : Nat) : mkF x d = Tr.mk x d := by
  induction d with
  | zero => rfl
  | succ d ih => show Tr.node x (mkF x d) (mkF x d) = _; rw [ih]; rfl
def setArgsF (args : List AVal) : Tr AVal → Nat → Tr AVal := List.rec (motive := fun _ => Tr AVal → Nat → Tr AVal) (fun f _ => f) (fun v _ ih f i => ih (setF f i v) (i + 1)) args
theorem setArgsF_eq (args : List AVal) : ∀ f i, setArgsF args f i = setArgs f i args := by
  induction args with
  | nil => intro f i; rfl
  | cons v r ih =>
    intro f i
    show setArgsF r (setF f i v) (i + 1) = _
    rw [ih, setF_eq]
    rfl
def iMov (x : Arg) (_ : Env) (c : Cfg) : R := some (evA x c.f, c)
def iPick (b x y : Arg) (_ : Env) (c : Cfg) : R := match evA b c.f with
    | .p (.bool t) => some (cond t (evA x c.f) (evA y c.f), c)
    | _ => none
def iAlloc (i : Nat) (zs : List AVal) (e : Env) (c : Cfg) : R := evIns e c (.alloc i zs)
def iBox (i : Nat) (n : Option Nat) (x : Arg) (_ : Env) (c : Cfg) : R := bindF (AVal.cells n (evA x c.f)) fun cs => match c.l.get (0, []) i with
    | (g, _) => some (.lptr i (g + 1) 0, { c with l := setF c.l i (g + 1, cs) })
def iLoad (n : Option Nat) (a : Arg) (e : Env) (c : Cfg) : R := bindF (loadFromF e.E c.l c.s (evA a c.f) (cnt n)) fun cs => bindF (AVal.ofCells n cs) fun v => some (v, c)
def iStore (n : Option Nat) (a x : Arg) (_ : Env) (c : Cfg) : R := bindF (AVal.cells n (evA x c.f)) fun cs => bindF (storeToF c (evA a c.f) cs) fun c => some (undefA, c)
def iBin (o : BinOp) (x y : Arg) (_ : Env) (c : Cfg) : R := bindF (evBin o (evA x c.f) (evA y c.f)) fun v => some (.p v, c)
def faA (off : Nat) (c : Cfg) (v : AVal) : R := match v with
    | .lptr i g o => some (.lptr i g (o + off), c)
    | .ptr l o => some (.ptr l (o + off), c)
    | .elem cs o => some (.elem cs (o + off), c)
    | _ => none
def iFa (off : Nat) (x : Arg) (_ : Env) (c : Cfg) : R := faA off c (evA x c.f)
def mapA (xs : List Arg) (f : Tr AVal) : List AVal := List.rec (motive := fun _ => List AVal) [] (fun x _ ih => evA x f :: ih) xs
theorem mapA_eq (xs : List Arg) (f : Tr AVal) : mapA xs f = xs.map (Arg.ev f) := by
  induction xs with
  | nil => rfl
  | cons x xs ih =>
    show evA x f :: mapA xs f = _
    rw [ih, evA_eq]; rfl
def iCall (f : Nat) (args : List Arg) (e : Env) (c : Cfg) : R := bindF (e.call f (mapA args c.f) c.s) fun r => some (r.1, { c with s := r.2 })
def iCallv (f : Arg) (args : List Arg) (e : Env) (c : Cfg) : R := bindF (e.callv (evA f c.f) (mapA args c.f) c.s) fun r => some (r.1, { c with s := r.2 })
def evInsF (o : Ins) : Env → Cfg → R :=
  Ins.rec (motive := fun _ => Env → Cfg → R) iMov iPick iAlloc (fun i e c => evIns e c (.alloced i)) iBox (fun z e c => evIns e c (.halloc z)) (fun z e c => evIns e c (.halloced z)) (fun n x e c => evIns e c (.hbox n x))
    (fun z ps e c => evIns e c (.build z ps)) (fun n z ps e c => evIns e c (.mks n z ps)) iLoad iStore (fun x e c => evIns e c (.nck x)) iBin (fun k n x y e c => evIns e c (.eqv k n x y)) (fun k n x y e c => evIns e c (.eqs k n x y))
    (fun x e c => evIns e c (.not x)) (fun k x e c => evIns e c (.cvt k x)) (fun f a b e c => evIns e c (.mkf f a b)) (fun s b x e c => evIns e c (.mksl s b x)) (fun s x l h e c => evIns e c (.slice s x l h)) (fun x l h e c => evIns e c (.sstr x l h)) iFa
    (fun s x i e c => evIns e c (.ia s x i)) (fun x i e c => evIns e c (.idx x i)) (fun x i e c => evIns e c (.ext x i)) iCall iCallv (fun s b x y e c => evIns e c (.app s b x y)) (fun s x e c => evIns e c (.len s x)) (fun m x y e c => evIns e c (.minmax m x y))
    (fun e c => evIns e c .mkmap) (fun k m x y e c => evIns e c (.insert k m x y)) (fun k z ok m x e c => evIns e c (.look k z ok m x)) o
theorem evInsF_eq (o : Ins) (e : Env) (c : Cfg) : evInsF o e c = evIns e c o := by
  cases o <;> try rfl
  case mov x => show some (evA x c.f, c) = _; rw [evA_eq]; rfl
  case pick b x y =>
    show iPick b x y e c = _
    unfold iPick
    simp only [evA_eq, evIns, evPure]
    split <;> simp_all
  case box i n x =>
    show iBox i n x e c = _
    unfold iBox
    simp only [evA_eq, bindF_eq, setF_eq, evIns]
  case load n a =>
    show iLoad n a e c = _
    unfold iLoad
    simp only [evA_eq, bindF_eq, evIns, loadFromF_eq]
    congr 1
    funext cs
    cases AVal.ofCells n cs <;> rfl
  case store n a x =>
    show iStore n a x e c = _
    unfold iStore
    simp only [evA_eq, bindF_eq, evIns, storeToF_eq]
    congr 1
    funext cs
    cases storeTo c (a.ev c.f) cs <;> rfl
  case bin o x y =>
    show iBin o x y e c = _
    unfold iBin
    simp only [evA_eq, bindF_eq, evIns, evPure]
    cases evBin o (x.ev c.f) (y.ev c.f) <;> rfl
  case fa off x =>
    show faA off c (evA x c.f) = _
    rw [evA_eq]
    simp only [evIns, evPure]
    cases x.ev c.f <;> rfl
  case call f args =>
    show iCall f args e c = _
    unfold iCall
    simp only [mapA_eq, bindF_eq, evIns]
    cases e.call f (args.map (Arg.ev c.f)) c.s <;> rfl
  case callv f args =>
    show iCallv f args e c = _
    unfold iCallv
    simp only [mapA_eq, evA_eq, bindF_eq, evIns]
    cases e.callv (f.ev c.f) (args.map (Arg.ev c.f)) c.s <;> rfl
def putF (d : Option Nat) (v : AVal) (c : Cfg) : Cfg := Option.rec (motive := fun _ => Cfg) c (fun t => { c with f := setF c.f t v }) d
theorem putF_eq (d : Option Nat) (v : AVal) (c : Cfg) : putF d v c = c.put d v := by
  cases d with
  | none => rfl
  | some t => show ({ c with f := setF c.f t v } : Cfg) = _; rw [setF_eq]; rfl
def goF (o : COp) (e : Env) (c : Cfg) : Option Cfg := bindF (evInsF o.op e c) fun r => some (putF o.dst r.1 r.2)
def evOpF (e : Env) (c : Cfg) (o : COp) : Option Cfg := Option.rec (motive := fun _ => Option Cfg) (goF o e c) (fun _ => bindF (wanted c.f o.guard) fun b => bF b (goF o e c) (some (putF o.dst undefA c))) o.guard
theorem evOpF_eq (e : Env) (c : Cfg) (o : COp) : evOpF e c o = evOp e c o := by
  have hg : goF o e c = (evIns e c o.op).map fun (v, c) => c.put o.dst v := by
    unfold goF
    rw [bindF_eq, evInsF_eq]
    cases evIns e c o.op with
    | none => rfl
    | some r => simp [putF_eq]
  unfold evOpF evOp
  cases h : o.guard with
  | none =>
    show goF o e c = _
    rw [hg]
    rfl
  | some g =>
    show bindF (wanted c.f (some g)) (fun b => bF b (goF o e c) (some (putF o.dst undefA c))) = _
    rw [bindF_eq, hg, putF_eq]
    congr 1
    funext b
    cases b <;> rfl
def evOpsF (e : Env) (l : List COp) : Cfg → Option Cfg := List.rec (motive := fun _ => Cfg → Option Cfg) (fun c => some c) (fun o _ ih c => bindF (evOpF e c o) ih) l
theorem evOpsF_eq (e : Env) (l : List COp) : ∀ c, evOpsF e l c = evOps e l c := by
  induction l with
  | nil => intro c; rfl
  | cons o l ih =>
    intro c
    show bindF (evOpF e c o) (evOpsF e l) = _
    rw [bindF_eq, evOpF_eq, evOps]
    congr 1
    funext c
    exact ih c
def evTraceF (e : Env) (l : List COp) : Cfg → Option (List Cfg) := List.rec (motive := fun _ => Cfg → Option (List Cfg)) (fun c => some [c]) (fun o _ ih c => bindF (evOpF e c o) fun c' => bindF (ih c') fun t => some (c :: t)) l
theorem evTraceF_eq (e : Env) (l : List COp) : ∀ c, evTraceF e l c = evTrace e l c := by
  induction l with
  | nil => intro c; rfl
  | cons o l ih =>
    intro c
    show bindF (evOpF e c o) (fun c' => bindF (evTraceF e l c') fun t => some (c :: t)) = _
    rw [bindF_eq, evOpF_eq, evTrace]
    congr 1
    funext c'
    rw [bindF_eq, ih]
    cases evTrace e l c' <;> rfl
abbrev RC := Option (EX × Cfg)
def cReg (ops : List COp) (e : Env) (_ : Nat) (c : Cfg) : RC := bindF (evOpsF e ops c) fun c => some (.normal, c)
def cRegd (pre hpre : List (Nat × List AVal)) (ops : List COp) (chk : List Chk) (e : Env) (_ : Nat) (c : Cfg) : RC :=
  match preH c.s hpre with
    | (s, h) => bindF (evTraceF e ops { c with l := preL c.l pre, h := h, s := s }) fun tr =>
      match lastOr c tr with
      | last => cond (chk.all (okChk e tr last)) (some (.normal, last)) none
def cSeq (_ _ : CC) (a b : Env → Nat → Cfg → RC) (e : Env) (n : Nat) (c : Cfg) : RC := bindF (a e n c) fun r => xF r.1 (b e n r.2) (fun i => some (.exit i, r.2)) (some (.ret, r.2))
def condB (v : AVal) (a b : RC) : RC := match v with
    | .p (.bool t) => bF t a b
    | _ => none
def cCond (x : Arg) (_ _ : CC) (a b : Env → Nat → Cfg → RC) (e : Env) (n : Nat) (c : Cfg) : RC := condB (evA x c.f) (a e n c) (b e n c)
def cBlock (id : Nat) (_ : CC) (a : Env → Nat → Cfg → RC) (e : Env) (n : Nat) (c : Cfg) : RC := bindF (a e n c) fun r => some (xF r.1 .normal (fun i => bF (Nat.beq i id) .normal (.exit i)) .ret, r.2)
def cLoop (_ : CC) (a : Env → Nat → Cfg → RC) (e : Env) (n : Nat) (c : Cfg) : RC :=
  Nat.rec (motive := fun _ => Cfg → RC) (fun _ => none) (fun _ ih c => bindF (a e n c) fun r => xF r.1 (ih r.2) (fun i => some (.exit i, r.2)) (some (.ret, r.2))) n c
def evCCF (cc : CC) : Env → Nat → Cfg → RC :=
  CC.rec (motive := fun _ => Env → Nat → Cfg → RC) (fun _ _ c => some (.normal, c)) cReg cRegd cSeq cCond cBlock cLoop (fun f ps a b _ _ e n c => evCC e n (.rangeFunc f ps a b) c) (fun i _ _ c => some (.exit i, c)) (fun _ _ c => some (.ret, c)) (fun _ _ _ => none) cc
theorem evCCF_eq (cc : CC) (e : Env) (n : Nat) : ∀ c, evCCF cc e n c = evCC e n cc c := by
  induction cc with
  | skip => intro c; rfl
  | reg ops =>
    intro c
    show bindF (evOpsF e ops c) (fun c => some (EX.normal, c)) = _
    rw [bindF_eq, evOpsF_eq, evCC]
    cases evOps e ops c <;> rfl
  | regd pre hpre ops chk =>
    intro c
    show cRegd pre hpre ops chk e n c = _
    unfold cRegd
    simp only [bindF_eq, evTraceF_eq, evCC]
  | seq a b iha ihb =>
    intro c
    show bindF (evCCF a e n c) (fun r => xF r.1 (evCCF b e n r.2) (fun i => some (EX.exit i, r.2)) (some (EX.ret, r.2))) = _
    rw [bindF_eq, iha, evCC]
    congr 1
    funext r
    obtain ⟨x, c'⟩ := r
    cases x with
    | normal => exact ihb c'
    | exit i => rfl
    | ret => rfl
  | cond x a b iha ihb =>
    intro c
    show condB (evA x c.f) (evCCF a e n c) (evCCF b e n c) = _
    rw [evA_eq, iha, ihb, evCC]
    unfold condB
    cases x.ev c.f with
    | p v => cases v with
      | bool t => cases t <;> rfl
      | _ => rfl
    | _ => rfl
  | block id a iha =>
    intro c
    show bindF (evCCF a e n c) (fun r => some (xF r.1 EX.normal (fun i => bF (Nat.beq i id) EX.normal (EX.exit i)) EX.ret, r.2)) = _
    rw [bindF_eq, iha, evCC]
    cases evCC e n a c with
    | none => rfl
    | some r =>
      obtain ⟨x, c'⟩ := r
      cases x with
      | normal => rfl
      | exit i =>
        show some (bF (Nat.beq i id) EX.normal (EX.exit i), c') = some (cond (Nat.beq i id) EX.normal (EX.exit i), c')
        cases Nat.beq i id <;> rfl
      | ret => rfl
  | loop a iha =>
    intro c
    rw [evCC]
    have : ∀ k c, Nat.rec (motive := fun _ => Cfg → RC) (fun _ => none) (fun _ ih c => bindF (evCCF a e n c) fun r => xF r.1 (ih r.2) (fun i => some (.exit i, r.2)) (some (.ret, r.2))) k c = loopN k (evCC e n a) c := by
      intro k
      induction k with
      | zero => intro c; rfl
      | succ k ih =>
        intro c
        show bindF (evCCF a e n c) _ = (evCC e n a c).bind _
        rw [bindF_eq, iha]
        congr 1
        funext r
        obtain ⟨x, c'⟩ := r
        cases x with
        | normal => exact ih c'
        | exit i => rfl
        | ret => rfl
    exact this n c
  | rangeFunc f ps a b _ _ => intro c; rfl
  | exit i => intro c; rfl
  | ret => intro c; rfl
  | bad => intro c; rfl

def runPF (e : Env) (n : Nat) (cf : CF) (args : List AVal) (s : ASt) : Option AVal :=
  bindF (evCCF cf.body e n ⟨setArgsF args (mkF undefA cf.depth) 0, mkF (0, []) cf.ldepth, [], none, { s with heap := [], toks := [] }⟩) fun r => leave e cf r
theorem runPF_eq : runPF = runP := by
  funext e n cf args s
  unfold runPF runP
  rw [bindF_eq, evCCF_eq, setArgsF_eq, mkF_eq, mkF_eq]
def aGo (env : Heap → Env) (n : Nat) (E : Heap) (args : List AVal) (s : ASt) (cf : CF) : Option (AVal × ASt) :=
  bF cf.pure
    (bindF (runPF (env (s.heap ++ E)) n cf args s) fun v => bF (plain s.next (erase v)) (some (erase v, s)) none)
    (bindF (evCCF cf.body (env E) n ⟨setArgsF args (mkF undefA cf.depth) 0, mkF (0, []) cf.ldepth, [], none, s⟩) fun r =>
      bindF (leave (env E) cf r) fun v => match cond cf.keepR v (erase v) with
        | v => bF (away v) (some (v, r.2.s)) none)
def applyFF (CP : Nat → Option CF) (env : Heap → Env) (n : Nat) (E : Heap) (f : Nat) (args : List AVal) (s : ASt) : Option (AVal × ASt) :=
  bindF (CP f) fun cf => bF (Nat.beq args.length cf.np && args.all awayC)
    (bF (cf.clone && isNil0 (args.map erase)) (applyF CP env n E f args s) (aGo env n E (cond cf.keepA args (args.map erase)) s cf)) none
theorem bF_eq {α : Type} (b : Bool) (x y : α) : bF b x y = cond b x y := by cases b <;> rfl
theorem applyFF_eq : applyFF = applyF := by
  funext CP env n E f args s
  unfold applyFF applyF
  rw [bindF_eq]
  cases h : CP f with
  | none => rfl
  | some cf =>
    simp only [Option.bind_some, bF_eq]
    cases Nat.beq args.length cf.np && args.all awayC with
    | false => rfl
    | true =>
      simp only [cond_true]
      cases h2 : cf.clone && isNil0 (args.map erase) with
      | true =>
        simp only [cond_true]
      | false =>
        simp only [cond_false]
        unfold aGo
        simp only [bF_eq, bindF_eq, runPF_eq, evCCF_eq, setArgsF_eq, mkF_eq]
def mkEnvF (CP : Nat → Option CF) (n : Nat) : Heap → Env :=
  Nat.rec (fun E => { E := E, pure := isPureF CP, call := fun _ _ _ => none, callv := fun _ _ _ => none })
    (fun n env E => { E := E, pure := isPureF CP, call := applyFF CP env n E, callv := applyV (applyFF CP env n E) env n E }) n
theorem mkEnvF_eq (CP : Nat → Option CF) (n : Nat) : mkEnvF CP n = mkEnv CP n := by
  induction n with
  | zero => rfl
  | succ n ih =>
    funext E
    show ({ E := E, pure := isPureF CP, call := applyFF CP (mkEnvF CP n) n E, callv := applyV (applyFF CP (mkEnvF CP n) n E) (mkEnvF CP n) n E } : Env) = _
    rw [ih, applyFF_eq]
    rfl
end
end Go.AI

/- Calls whose answers are known. -/
namespace Go.AI
variable {P : Program}

structure Fact where
  f : Nat
  args : List PVal
  res : PVal
def plainArgs : List AVal → Option (List PVal)
  | [] => some []
  | .p c :: r => (plainArgs r).map (c :: ·)
  | _ :: _ => none
def factOf (M : List Fact) (f : Nat) (args : List PVal) : Option PVal :=
  match M with
  | [] => none
  | x :: r => cond (Nat.beq x.f f && psames x.args args) (some x.res) (factOf r f args)
def memoEnv (M : List Fact) (e : Env) : Env :=
  { e with call := fun f args s => match (plainArgs (args.map erase)).bind (factOf M f) with
      | some r => some (.p r, s)
      | none => e.call f args s }
def FactOK (P : Program) (CP : Nat → Option CF) (x : Fact) : Prop := ∃ n s', (mkEnv CP n []).call x.f (x.args.map .p) s00 = some (.p x.res, s')

def Gh.still (G : Gh) : Gh := { own := (G.fix 0).own, bOf := fun _ => none, lam := fun _ _ => none, nt := 0, lo := 0 }
theorem mr_still {E : Heap} {U pd : Nat → Option (List AVal)} {l : Tr (Nat × List AVal)} {s : ASt} {G : Gh} {w : World} (h : MR P E U pd l s G w) : MR P [] (fun _ => none) (fun _ => none) .nil s00 G.still w :=
  ⟨fun b hb => h.own b (fix_own (lo := 0) rfl hb), fun k b h => (by cases h), Nat.le_refl _, fun k zs h => (by cases h), fun i zs h => (by cases h), rfl, fun i g cs h hg _ => (by cases h; exact absurd rfl hg), fun i g b h => (by cases h), fun k o h => (by cases h), fun k o h => (by cases h),
    fun t n sz h => (by cases h), fun b t n sz h => (fix_tok (lo := 0) h).elim, fun b b' t n n' sz sz' h => (fix_tok (lo := 0) h).elim⟩
theorem plainArgs_ok : ∀ {xs : List AVal} {cs : List PVal}, plainArgs xs = some cs → xs = cs.map .p
  | [], cs, h => by
    simp only [plainArgs, Option.some.injEq] at h
    subst h; rfl
  | x :: xs, cs, h => by
    cases x with
    | p c =>
      simp only [plainArgs, Option.map_eq_some_iff] at h
      obtain ⟨ds, hd, rfl⟩ := h
      rw [plainArgs_ok hd]; rfl
    | _ => cases h
theorem factOf_ok {f : Nat} {args : List PVal} {r : PVal} : ∀ {M : List Fact}, factOf M f args = some r → ∃ x ∈ M, x.f = f ∧ x.args = args ∧ x.res = r
  | [], h => by cases h
  | x :: M, h => by
    unfold factOf at h
    cases hb : Nat.beq x.f f && psames x.args args with
    | true =>
      rw [hb] at h
      simp only [cond_true, Option.some.injEq] at h
      simp only [Bool.and_eq_true] at hb
      exact ⟨x, List.mem_cons_self, beq_iff.1 hb.1, psames_eq _ _ hb.2, h⟩
    | false =>
      rw [hb] at h
      obtain ⟨y, hy, h1⟩ := factOf_ok h
      exact ⟨y, List.mem_cons_of_mem _ hy, h1⟩
theorem memo_ok {CP : Nat → Option CF} (pk : ProgOK P CP) {M : List Fact} (hM : ∀ x ∈ M, FactOK P CP x) {e : Env} (se : SoundEnv P e) : SoundEnv P (memoEnv M e) := by
  refine ⟨?_, fun h => se.callv h, fun h => se.callf h, ?_⟩
  · intro f args s v s' h U pd l G w vs mr ha
    have h' : (match (plainArgs (args.map erase)).bind (factOf M f) with
      | some r => some (.p r, s)
      | none => e.call f args s) = some (v, s') := h
    split at h'
    · rename_i r hr
      simp only [Option.some.injEq, Prod.mk.injEq] at h'
      obtain ⟨rfl, rfl⟩ := h'
      simp only [Option.bind_eq_some_iff] at hr
      obtain ⟨cs, hcs, hr⟩ := hr
      obtain ⟨x, hx, rfl, rfl, rfl⟩ := factOf_ok hr
      obtain ⟨n, s1, hrun⟩ := hM x hx
      have ha2 := erase_args false ha
      simp only [cond_false] at ha2
      rw [plainArgs_ok hcs] at ha2
      have hargs : VRs G.still w (x.args.map .p) vs.toList := ⟨ha2.1, fun i c u hc hu => by
        have := ha2.2 i c u hc hu
        simp only [List.getElem?_map, Option.map_eq_some_iff] at hc
        obtain ⟨d, _, rfl⟩ := hc
        cases this with | p _ _ hp =>
        exact .p _ _ (hp.mono fun ad v h1 h2 => ⟨h1, (fix_S G 0 _ _).2 h2⟩)⟩
      have se0 := env_ok pk n []
      have mr0 := mr_still mr
      rw [← mkEnv_E CP n []] at mr0
      refine (se0.call hrun mr0 hargs).mono fun u w' ⟨G', x1, _, hv⟩ => ?_
      have k : Keep w w' := ⟨x1.size, x1.os, x1.tape, x1.output, fun b hb => (x1.still b hb (fix_still G 0 b)).1, x1.cold⟩
      refine ⟨G, k.ext G, mr.keep k, ?_⟩
      cases hv with | p _ _ hp =>
      refine .p _ _ (hp.mono fun ad v h1 h2 => ⟨h1, ?_⟩)
      by_cases hb : ad.block < w.heap.size
      · refine (fix_S G 0 _ _).1 ?_
        have := (x1.still _ hb (fix_still G 0 _)).2
        unfold Gh.S at h2 ⊢
        rw [this] at h2
        exact h2
      · unfold Gh.S
        rw [mr.free (by omega)]
        trivial
    · exact se.call h' mr ha
  · intro f args s v s' hp h
    have h' : (match (plainArgs (args.map erase)).bind (factOf M f) with
      | some r => some (.p r, s)
      | none => e.call f args s) = some (v, s') := h
    split at h'
    · simp only [Option.some.injEq, Prod.mk.injEq] at h'
      exact h'.2.symm
    · exact se.pure hp h'

def isB (b : Bool) : Option AVal → Bool
  | some (.p (.bool x)) => cond x b (!b)
  | _ => false
/-- A closed function's run, over the facts. -/
def runM (CP : Nat → Option CF) (M : List Fact) (n f : Nat) : Option AVal :=
  (CP f).bind fun cf => cond (Nat.beq cf.np 0) ((evCC (memoEnv M (mkEnv CP n [])) n cf.body ⟨Tr.mk undefA cf.depth, Tr.mk (0, []) cf.ldepth, [], none, s00⟩).bind fun r => leave (memoEnv M (mkEnv CP n [])) cf r) none
theorem closed_memo {CP : Nat → Option CF} (pk : ProgOK P CP) {M : List Fact} (hM : ∀ x ∈ M, FactOK P CP x) {n f : Nat} {b : Bool} (h : isB b (runM CP M n f) = true) (w : World) : Calls P f #[] w fun e w' => e = .returned (.bool b) ∧ RowKit.Grown w w' := by
  have hb : runM CP M n f = some (.p (.bool b)) := by
    generalize runM CP M n f = x at h
    unfold isB at h
    split at h
    · rename_i y
      cases y <;> cases b <;> first | rfl | cases h
    · cases h
  unfold runM at hb
  simp only [Option.bind_eq_some_iff] at hb
  obtain ⟨cf, hcf, hb⟩ := hb
  obtain ⟨hnp, hb⟩ := cond_none hb
  simp only [Option.bind_eq_some_iff] at hb
  obtain ⟨r, hr, hl⟩ := hb
  obtain ⟨fn, fl, hf, hc, _⟩ := pk.code f cf hcf
  have se := memo_ok pk hM (env_ok pk n [])
  have hE : (memoEnv M (mkEnv CP n [])).E = [] := mkEnv_E CP n []
  have mr : MR P (memoEnv M (mkEnv CP n [])).E (fun _ => none) (fun _ => none) (Tr.mk (0, []) cf.ldepth) s00 G00 w := by
    rw [hE]
    have h0 := mr00 P w
    refine ⟨h0.own, h0.bOf, h0.lo_, h0.un, fun i zs h => (by cases h), h0.nt, fun i g cs h hg _ => ?_, fun i g b h => (by cases h), h0.heap, h0.ro, h0.tok⟩
    rw [Tr.get_mk] at h
    cases h
    exact absurd rfl hg
  have := run_ok (args := []) (vs := #[]) (v := .p (.bool b)) se pk.orders hf hc (beq_iff.1 hnp).symm mr VRs.nil hr hl
  exact Calls.mono ((callsIn_wide (n := 0)).1 this) fun e w' ⟨u, he, G', x, _, hv⟩ => ⟨by rw [he, hv.bool_inv], grown_of x⟩

def runC (CP : Nat → Option CF) (n f : Nat) (args : List PVal) : Option AVal := ((mkEnv CP n []).call f (args.map .p) s00).map (·.1)
theorem fact_of {CP : Nat → Option CF} (n : Nat) {f : Nat} {args : List PVal} {b : Bool} (h : isB b (runC CP n f args) = true) : FactOK P CP ⟨f, args, .bool b⟩ := by
  have hb : runC CP n f args = some (.p (.bool b)) := by
    generalize runC CP n f args = x at h
    unfold isB at h
    split at h
    · rename_i y
      cases y <;> cases b <;> first | rfl | cases h
    · cases h
  unfold runC at hb
  simp only [Option.map_eq_some_iff] at hb
  obtain ⟨⟨v, s'⟩, h1, h2⟩ := hb
  simp only at h2
  subst h2
  exact ⟨n, s', h1⟩
end Go.AI
