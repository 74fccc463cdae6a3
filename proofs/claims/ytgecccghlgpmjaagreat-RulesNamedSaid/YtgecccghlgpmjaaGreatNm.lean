/- What the functions behind RulesNamed answer: contracts. Numbers of rounds: at least 24. -/
import Derived.Test.YtgecccghlgpmjaaGreatSh
import Derived.KernelRfl
set_option linter.unusedVariables false
set_option linter.unusedSimpArgs false
namespace Go.AI.Tryz

/-- The names of the rules. -/
def nms : List ByteArray := [⟨#[111, 112]⟩, ⟨#[97, 115]⟩, ⟨#[115, 105, 122, 101]⟩, ⟨#[110, 101, 117, 116, 114, 97, 108]⟩, ⟨#[115, 119, 97, 112]⟩, ⟨#[105, 102]⟩, ⟨#[115, 97, 109, 101]⟩, ⟨#[110, 111, 116]⟩, ⟨#[98, 111, 111, 108]⟩, ⟨#[115, 107, 105, 112]⟩, ⟨#[110, 101, 115, 116]⟩, ⟨#[100, 101, 97, 100]⟩, ⟨#[119, 104, 105, 108, 101]⟩, ⟨#[117, 110, 117, 115, 101, 100]⟩, ⟨#[114, 101, 97, 100]⟩, ⟨#[119, 114, 105, 116, 101]⟩, ⟨#[107, 110, 111, 119, 110]⟩, ⟨#[108, 97, 98, 101, 108]⟩, ⟨#[106, 117, 109, 112]⟩, ⟨#[110, 111, 116, 105, 99, 101]⟩, ⟨#[99, 104, 111, 111, 115, 101]⟩, ⟨#[110, 101, 118, 101, 114]⟩]
def nmP : List PVal := [.str ⟨#[111, 112]⟩, .str ⟨#[97, 115]⟩, .str ⟨#[115, 105, 122, 101]⟩, .str ⟨#[110, 101, 117, 116, 114, 97, 108]⟩, .str ⟨#[115, 119, 97, 112]⟩, .str ⟨#[105, 102]⟩, .str ⟨#[115, 97, 109, 101]⟩, .str ⟨#[110, 111, 116]⟩, .str ⟨#[98, 111, 111, 108]⟩, .str ⟨#[115, 107, 105, 112]⟩, .str ⟨#[110, 101, 115, 116]⟩, .str ⟨#[100, 101, 97, 100]⟩, .str ⟨#[119, 104, 105, 108, 101]⟩, .str ⟨#[117, 110, 117, 115, 101, 100]⟩, .str ⟨#[114, 101, 97, 100]⟩, .str ⟨#[119, 114, 105, 116, 101]⟩, .str ⟨#[107, 110, 111, 119, 110]⟩, .str ⟨#[108, 97, 98, 101, 108]⟩, .str ⟨#[106, 117, 109, 112]⟩, .str ⟨#[110, 111, 116, 105, 99, 101]⟩, .str ⟨#[99, 104, 111, 111, 115, 101]⟩, .str ⟨#[110, 101, 118, 101, 114]⟩]
def ruP : List PVal := [.str ⟨#[111, 112]⟩, .func 72 [] [], .str ⟨#[97, 115]⟩, .func 73 [] [], .str ⟨#[115, 105, 122, 101]⟩, .func 74 [] [], .str ⟨#[110, 101, 117, 116, 114, 97, 108]⟩, .func 75 [] [], .str ⟨#[115, 119, 97, 112]⟩, .func 76 [] [], .str ⟨#[105, 102]⟩, .func 77 [] [], .str ⟨#[115, 97, 109, 101]⟩, .func 78 [] [], .str ⟨#[110, 111, 116]⟩, .func 79 [] [], .str ⟨#[98, 111, 111, 108]⟩, .func 80 [] [], .str ⟨#[115, 107, 105, 112]⟩, .func 81 [] [], .str ⟨#[110, 101, 115, 116]⟩, .func 82 [] [], .str ⟨#[100, 101, 97, 100]⟩, .func 83 [] [], .str ⟨#[119, 104, 105, 108, 101]⟩, .func 84 [] [], .str ⟨#[117, 110, 117, 115, 101, 100]⟩, .func 85 [] [], .str ⟨#[114, 101, 97, 100]⟩, .func 86 [] [], .str ⟨#[119, 114, 105, 116, 101]⟩, .func 87 [] [], .str ⟨#[107, 110, 111, 119, 110]⟩, .func 88 [] [], .str ⟨#[108, 97, 98, 101, 108]⟩, .func 89 [] [], .str ⟨#[106, 117, 109, 112]⟩, .func 90 [] [], .str ⟨#[110, 111, 116, 105, 99, 101]⟩, .func 91 [] [], .str ⟨#[99, 104, 111, 111, 115, 101]⟩, .func 92 [] [], .str ⟨#[110, 101, 118, 101, 114]⟩, .func 93 [] []]
theorem b51 (e : Env) (n : Nat) (s : ASt) : s51 e n s = some (.sl 22 nmP .full, s) := by kernel_rfl
theorem b50 (e : Env) (n : Nat) (s : ASt) : s50 e n s = some (.sl 22 ruP .full, s) := by kernel_rfl
theorem c51 (n : Nat) (E : Heap) (s : ASt) : cl (mkEnv CP (n + 1) E) 51 [] s = some (.p (.sl 22 nmP), s) := by
  rw [cl_eq]
  exact callP (cf := cf51) (np := 0) (args' := []) (by kernel_rfl) (by kernel_rfl) rfl rfl rfl ((s51_eq _ _ _).trans (b51 _ _ _)) rfl rfl
theorem c50 (n : Nat) (E : Heap) (s : ASt) : cl (mkEnv CP (n + 1) E) 50 [] s = some (.p (.sl 22 ruP), s) := by
  rw [cl_eq]
  exact callI (cf := cf50) (np := 0) (args' := []) (by kernel_rfl) (by kernel_rfl) rfl rfl rfl ((s50_eq _ _ _).trans (b50 _ _ _)) rfl rfl
/-- The place of the first name that is nm. -/
def fnd (nm : ByteArray) : List ByteArray → Nat → Int
  | [], _ => -1
  | a :: r, i => cond (strEq a nm) (.ofNat i) (fnd nm r (i + 1))
theorem nms_get (i : Nat) (h : i < 22) : ∃ a, nms.drop i = a :: nms.drop (i + 1) ∧ cut nmP (i * 1) 1 = some [.str a] ∧ cut ruP (i * 2) 2 = some [.str a, .func (72 + i) [] []] ∧ cut ruP (i * 2) 1 = some [.str a] := by
  have : i = 0 ∨ i = 1 ∨ i = 2 ∨ i = 3 ∨ i = 4 ∨ i = 5 ∨ i = 6 ∨ i = 7 ∨ i = 8 ∨ i = 9 ∨ i = 10 ∨ i = 11 ∨ i = 12 ∨ i = 13 ∨ i = 14 ∨ i = 15 ∨ i = 16 ∨ i = 17 ∨ i = 18 ∨ i = 19 ∨ i = 20 ∨ i = 21 := by omega
  rcases this with rfl | rfl | rfl | rfl | rfl | rfl | rfl | rfl | rfl | rfl | rfl | rfl | rfl | rfl | rfl | rfl | rfl | rfl | rfl | rfl | rfl | rfl <;> exact ⟨_, rfl, rfl, rfl, rfl⟩
theorem fnd_drop (nm : ByteArray) (i : Nat) (h : i < 22) : ∃ a, nms.drop i = a :: nms.drop (i + 1) ∧ fnd nm (nms.drop i) i = cond (strEq a nm) (.ofNat i) (fnd nm (nms.drop (i + 1)) (i + 1)) := by
  obtain ⟨a, ha, _⟩ := nms_get i h
  exact ⟨a, ha, by rw [ha]; rfl⟩
theorem lt22 {i : Nat} (h : i < 22) : ilt (Int.ofNat i) (Int.ofNat 22) = true := by
  rw [ilt_iff]
  exact decide_eq_true (by simp only [Int.ofNat_eq_natCast]; omega)
theorem wrap_small {i : Nat} (h : i < 100) : wrapK .i64 (Int.ofNat i + 1) = Int.ofNat (i + 1) := by
  rw [wrapK_eq]
  exact small_i64 (i + 1) (by omega)
/-- What Find answers. -/
def ans (x : Int) : AVal := cond (ilt x 0) (.tuple [u8 0, i64 7]) (.tuple [u8 (wrapK .u8 (wrapK .i64 (x + 1))), i64 0])
/-- The reference's loop. -/
theorem loop26 (e : Env) (s : ASt) (nm : ByteArray) : ∀ (d k i : Nat), i + d = 22 → d < k →
    lp (fun _ => none) (fun h5 x4 =>
  (ln false (.p (.sl 22 nmP))).bind fun x6 =>
  (bn .lss x4 x6).bind fun x7 =>
  condV x7 (bind2 (iaV 1 (.p (.sl 22 nmP)) x4) fun q8 o9 =>
  (ldH e s (.elem q8 o9) none).bind fun x10 =>
  (bn .eql x10 (.p (.str nm))).bind fun x11 =>
  condV x11 ((bn .add x4 (i64 1)).bind fun x12 =>
  (cv .u8 x12).bind fun x13 =>
  some (.tuple [x13, (i64 0)], s))
  ((bn .add x4 (i64 1)).bind fun x14 =>
  h5 x14))
  (some (.tuple [(u8 0), (i64 7)], s))) k (i64 (Int.ofNat i)) = some (ans (fnd nm (nms.drop i) i), s)
  | 0, k, i, h, hk => by
    obtain ⟨k, rfl⟩ : ∃ m, k = m + 1 := ⟨k - 1, by omega⟩
    have : i = 22 := by omega
    subst this
    rw [lp_succ]
    rfl
  | d + 1, k, i, h, hk => by
    obtain ⟨k, rfl⟩ : ∃ m, k = m + 1 := ⟨k - 1, by omega⟩
    obtain ⟨a, h1, h2, h3, h4⟩ := nms_get i (by omega)
    have ih := loop26 e s nm d k (i + 1) (by omega) (by omega)
    rw [lp_succ]
    generalize lp _ _ k = L at ih ⊢
    simp only [ln_p, Option.bind_some, bn_cmp, binInt, Option.map_some, lt22 (show i < 22 by omega), condV_bool, cond_true, iaV_p (show i < 22 by omega), bind2_some, ldH_elem, cnt, h2, List.map_cons, List.map_nil, AVal.ofCells, bn_str, binStr]
    rw [h1]
    unfold fnd
    rw [wrap_small (show i < 100 by omega)]
    cases hb : strEq a nm with
    | true =>
      simp only [cond_true, cv_int, Option.bind_some, ans]
      have : ilt (Int.ofNat i) 0 = false := rfl
      rw [this, wrap_small (show i < 100 by omega)]
      rfl
    | false =>
      simp only [cond_false]
      exact ih
theorem b26 (n : Nat) (hn : 23 ≤ n) (E : Heap) (s : ASt) (nm : ByteArray) : s26 (mkEnv CP n E) n (.p (.str nm)) s = some (ans (fnd nm nms 0), s) := by
  obtain ⟨m, rfl⟩ : ∃ m, n = m + 1 := ⟨n - 1, by omega⟩
  unfold s26
  rw [c51, bind2_some]
  exact loop26 _ s nm 22 (m + 1) 0 (by omega) (by omega)
theorem ans_er (x : Int) : erase (ans x) = ans x := by unfold ans; cases ilt x 0 <;> rfl
theorem ans_plain (lo : Nat) (x : Int) : plain lo (ans x) = true := by unfold ans; cases ilt x 0 <;> rfl
theorem c26 (n : Nat) (hn : 23 ≤ n) (E : Heap) (s : ASt) (nm : ByteArray) : cl (mkEnv CP (n + 1) E) 26 [.p (.str nm)] s = some (ans (fnd nm nms 0), s) := by
  rw [cl_eq]
  exact callP (cf := cf26) (np := 1) (args' := [.p (.str nm)]) (by kernel_rfl) (by kernel_rfl) rfl rfl rfl ((s26_eq _ _ _ _).trans (b26 n hn _ _ nm)) (ans_er _) (ans_plain _ _)
/-- The program's closure: whether a rule has the name. -/
theorem b53 (e : Env) (n : Nat) (s : ASt) (l : Nat) (a nm : ByteArray) (g : PVal) (hl : cellsAt e.E s l = some [.p (.str nm)]) : s53 e n (.agg [.p (.str a), .p g]) (.ptr l 0) s = some (bl (strEq a nm), s) := by
  unfold s53
  have h1 : AVal.cells (some 2) (.agg [.p (.str a), .p g]) = some [.p (.str a), .p g] := rfl
  have h2 : ldL [.p (.str a), .p g] 0 none = some (.p (.str a)) := rfl
  have h3 : ldH e s (.ptr l 0) none = some (.p (.str nm)) := by
    unfold ldH
    simp only [loadFrom, hl, Option.bind_some]
    rfl
  simp only [h1, h2, h3, Option.bind_some, bn_str, binStr, Option.map_some]
theorem c53 (n : Nat) (E : Heap) (s : ASt) (l : Nat) (a nm : ByteArray) (i : Nat) (hl : cellsAt E s l = some [.p (.str nm)]) :
    clv (mkEnv CP (n + 1 + 1) E) (.func 53 [] [.ptr l 0]) [.agg [.p (.str a), .p (.func i [] [])]] s = some (bl (strEq a nm), s) := by
  rw [clv_eq, callv_func]
  exact callI (cf := cf53) (np := 2) (args' := [.agg [.p (.str a), .p (.func i [] [])], .ptr l 0]) (by kernel_rfl) (by kernel_rfl) rfl rfl rfl ((s53_eq _ _ _ _ _).trans (b53 _ _ _ _ _ nm _ (by rw [mkEnv_E']; exact hl))) rfl rfl
theorem loop52 (n : Nat) (E : Heap) (s : ASt) (l : Nat) (nm : ByteArray) (hl : cellsAt E s l = some [.p (.str nm)]) : ∀ (d k i : Nat), i + d = 22 → d < k →
    lp (fun _ _ => none) (fun h6 x4 s5 =>
  (bn .lss x4 (i64 (Int.ofNat 22))).bind fun x7 =>
  condV x7 (bind2 (iaV 2 (.p (.sl 22 ruP)) x4) fun q8 o9 =>
  (ldH (mkEnv CP (n + 1 + 1) E) s5 (.elem q8 o9) (some 2)).bind fun x10 =>
  bind2 (clv (mkEnv CP (n + 1 + 1) E) (.func 53 [] [.ptr l 0]) [x10] s5) fun x11 s12 =>
  condV x11 (some (x4, s12))
  ((bn .add x4 (i64 1)).bind fun x13 =>
  h6 x13 s12))
  (some ((i64 (-1)), s5))) k (i64 (Int.ofNat i)) s = some (i64 (fnd nm (nms.drop i) i), s)
  | 0, k, i, h, hk => by
    obtain ⟨k, rfl⟩ : ∃ m, k = m + 1 := ⟨k - 1, by omega⟩
    have : i = 22 := by omega
    subst this
    rw [lp_succ]
    rfl
  | d + 1, k, i, h, hk => by
    obtain ⟨k, rfl⟩ : ∃ m, k = m + 1 := ⟨k - 1, by omega⟩
    obtain ⟨a, h1, h2, h3, h4⟩ := nms_get i (by omega)
    have ih := loop52 n E s l nm hl d k (i + 1) (by omega) (by omega)
    rw [lp_succ]
    generalize lp _ _ k = L at ih ⊢
    simp only [Option.bind_some, bn_cmp, binInt, Option.map_some, lt22 (show i < 22 by omega), condV_bool, cond_true, iaV_p (show i < 22 by omega), bind2_some, ldH_elem, cnt, h3, List.map_cons, List.map_nil, AVal.ofCells, c53 n E s l a nm (72 + i) hl]
    rw [h1]
    unfold fnd
    rw [wrap_small (show i < 100 by omega)]
    cases hb : strEq a nm with
    | true => simp only [cond_true]
    | false =>
      simp only [cond_false]
      exact ih
theorem b52 (n : Nat) (hn : 23 ≤ n) (E : Heap) (s : ASt) (l : Nat) (nm : ByteArray) (hl : cellsAt E s l = some [.p (.str nm)]) : s52 (mkEnv CP n E) n (.p (.sl 22 ruP)) (.func 53 [] [.ptr l 0]) s = some (i64 (fnd nm nms 0), s) := by
  obtain ⟨m, rfl⟩ : ∃ m, n = m + 1 + 1 := ⟨n - 2, by omega⟩
  unfold s52
  rw [ln_p, Option.bind_some]
  exact loop52 m E s l nm hl 22 _ 0 (by omega) (by omega)
theorem c52 (n : Nat) (hn : 23 ≤ n) (E : Heap) (s : ASt) (l : Nat) (nm : ByteArray) (hl : cellsAt E s l = some [.p (.str nm)]) : cl (mkEnv CP (n + 1) E) 52 [.p (.sl 22 ruP), .func 53 [] [.ptr l 0]] s = some (i64 (fnd nm nms 0), s) := by
  rw [cl_eq]
  exact callI (cf := cf52) (np := 2) (args' := [.p (.sl 22 ruP), .func 53 [] [.ptr l 0]]) (by kernel_rfl) (by kernel_rfl) rfl rfl rfl ((s52_eq _ _ _ _ _).trans (b52 n hn E s l nm hl)) rfl rfl
theorem mf_53 (l : Nat) : mf 53 [] [.ptr l 0] = some (.func 53 [] [.ptr l 0]) := rfl
theorem fnd_lt (nm : ByteArray) : ∀ (l : List ByteArray) (i : Nat), fnd nm l i = -1 ∨ ∃ j : Nat, fnd nm l i = .ofNat j ∧ j < i + l.length
  | [], i => .inl rfl
  | a :: r, i => by
    unfold fnd
    cases strEq a nm with
    | true => exact .inr ⟨i, rfl, by simp⟩
    | false =>
      rcases fnd_lt nm r (i + 1) with h | ⟨j, h, hj⟩
      · exact .inl h
      · exact .inr ⟨j, h, by simp only [List.length_cons]; omega⟩
theorem b25 (n : Nat) (hn : 24 ≤ n) (E : Heap) (s : ASt) (hs : s.heap = []) (nm : ByteArray) : ∃ s', s25 (mkEnv CP n E) n (.p (.str nm)) s = some (ans (fnd nm nms 0), s') := by
  obtain ⟨m, rfl⟩ : ∃ m, n = m + 1 := ⟨n - 1, by omega⟩
  unfold s25
  have h1 : AVal.cells none (.p (.str nm)) = some [.p (.str nm)] := rfl
  simp only [h1, Option.bind_some]
  have h2 : ([.p (.str nm)] : List AVal).all away1 = true := rfl
  rw [h2, cnd_true]
  simp only [newK]
  rw [c50, bind2_some, mf_53, Option.bind_some]
  have hl : cellsAt E (newObj s (.cells [.p (.str nm)])) s.next = some [.p (.str nm)] := by
    unfold cellsAt newObj
    simp only [assoc_cons, if_pos]
  rw [c52 m (by omega) E _ s.next nm hl, bind2_some]
  refine ⟨newObj s (.cells [.p (.str nm)]), ?_⟩
  simp only [bn_cmp, binInt, Option.map_some, Option.bind_some, condV_bool, ans]
  cases ilt (fnd nm nms 0) 0 with
  | true => rfl
  | false => simp only [cond_false, cv_int, Option.bind_some]
theorem c25 (n : Nat) (hn : 24 ≤ n) (E : Heap) (s : ASt) (nm : ByteArray) : cl (mkEnv CP (n + 1) E) 25 [.p (.str nm)] s = some (ans (fnd nm nms 0), s) := by
  rw [cl_eq]
  obtain ⟨s', hb⟩ := b25 n hn (s.heap ++ E) { s with heap := [], toks := [] } rfl nm
  exact callP (cf := cf25) (np := 1) (args' := [.p (.str nm)]) (by kernel_rfl) (by kernel_rfl) rfl rfl rfl ((s25_eq _ _ _ _).trans hb) (ans_er _) (ans_plain _ _)
/-- What Name answers. -/
def ansN (r : Nat) : AVal := cond (Nat.blt 0 r && Nat.blt r 23) (.tuple [.p (.str (nms.getD (r - 1) ⟨#[]⟩)), i64 0]) (.tuple [.p (.str ⟨#[]⟩), i64 3])
theorem b23 (n : Nat) (hn : 1 ≤ n) (E : Heap) (s : ASt) (r : Nat) (hr : r < 256) : s23 (mkEnv CP n E) n (u8 (.ofNat r)) s = some (ansN r, s) := by
  obtain ⟨m, rfl⟩ : ∃ m, n = m + 1 := ⟨n - 1, by omega⟩
  unfold s23 s23_0
  rw [c50, bind2_some]
  by_cases h : r < 23
  · have : r = 0 ∨ r = 1 ∨ r = 2 ∨ r = 3 ∨ r = 4 ∨ r = 5 ∨ r = 6 ∨ r = 7 ∨ r = 8 ∨ r = 9 ∨ r = 10 ∨ r = 11 ∨ r = 12 ∨ r = 13 ∨ r = 14 ∨ r = 15 ∨ r = 16 ∨ r = 17 ∨ r = 18 ∨ r = 19 ∨ r = 20 ∨ r = 21 ∨ r = 22 := by omega
    rcases this with rfl | rfl | rfl | rfl | rfl | rfl | rfl | rfl | rfl | rfl | rfl | rfl | rfl | rfl | rfl | rfl | rfl | rfl | rfl | rfl | rfl | rfl | rfl <;> rfl
  · have h1 : ilt (Int.ofNat r) 1 = false := by rw [ilt_iff]; exact decide_eq_false (by simp only [Int.ofNat_eq_natCast]; omega)
    have h2 : wrapK .i64 (Int.ofNat r) = Int.ofNat r := by rw [wrapK_eq]; exact small_i64 r (by omega)
    have h3 : ilt (Int.ofNat 22) (Int.ofNat r) = true := by rw [ilt_iff]; exact decide_eq_true (by simp only [Int.ofNat_eq_natCast]; omega)
    have h4 : (Nat.blt 0 r && Nat.blt r 23) = false := by
      rw [Bool.and_eq_false_iff]
      right
      cases hb : Nat.blt r 23 with
      | false => rfl
      | true => exact absurd (blt_iff.1 hb) h
    simp only [jn_eq, bn_cmp, binInt, Option.map_some, Option.bind_some, h1, condV_bool, cond_false, cv_int, ln_p, h2, h3, cond_true, ansN, h4]
theorem b24 (n : Nat) (hn : 1 ≤ n) (E : Heap) (s : ASt) (r : Nat) (hr : r < 256) : s24 (mkEnv CP n E) n (u8 (.ofNat r)) s = some (ansN r, s) := by
  obtain ⟨m, rfl⟩ : ∃ m, n = m + 1 := ⟨n - 1, by omega⟩
  unfold s24 s24_0
  rw [c51, bind2_some]
  by_cases h : r < 23
  · have : r = 0 ∨ r = 1 ∨ r = 2 ∨ r = 3 ∨ r = 4 ∨ r = 5 ∨ r = 6 ∨ r = 7 ∨ r = 8 ∨ r = 9 ∨ r = 10 ∨ r = 11 ∨ r = 12 ∨ r = 13 ∨ r = 14 ∨ r = 15 ∨ r = 16 ∨ r = 17 ∨ r = 18 ∨ r = 19 ∨ r = 20 ∨ r = 21 ∨ r = 22 := by omega
    rcases this with rfl | rfl | rfl | rfl | rfl | rfl | rfl | rfl | rfl | rfl | rfl | rfl | rfl | rfl | rfl | rfl | rfl | rfl | rfl | rfl | rfl | rfl | rfl <;> rfl
  · have h1 : ilt (Int.ofNat r) 1 = false := by rw [ilt_iff]; exact decide_eq_false (by simp only [Int.ofNat_eq_natCast]; omega)
    have h2 : wrapK .i64 (Int.ofNat r) = Int.ofNat r := by rw [wrapK_eq]; exact small_i64 r (by omega)
    have h3 : ilt (Int.ofNat 22) (Int.ofNat r) = true := by rw [ilt_iff]; exact decide_eq_true (by simp only [Int.ofNat_eq_natCast]; omega)
    have h4 : (Nat.blt 0 r && Nat.blt r 23) = false := by
      rw [Bool.and_eq_false_iff]
      right
      cases hb : Nat.blt r 23 with
      | false => rfl
      | true => exact absurd (blt_iff.1 hb) h
    simp only [jn_eq, bn_cmp, binInt, Option.map_some, Option.bind_some, h1, condV_bool, cond_false, cv_int, ln_p, h2, h3, cond_true, ansN, h4]
theorem ansN_er (r : Nat) : erase (ansN r) = ansN r := by unfold ansN; cases (Nat.blt 0 r && Nat.blt r 23) <;> rfl
theorem ansN_plain (lo r : Nat) : plain lo (ansN r) = true := by unfold ansN; cases (Nat.blt 0 r && Nat.blt r 23) <;> rfl
theorem c23 (n : Nat) (hn : 1 ≤ n) (E : Heap) (s : ASt) (r : Nat) (hr : r < 256) : cl (mkEnv CP (n + 1) E) 23 [u8 (.ofNat r)] s = some (ansN r, s) := by
  rw [cl_eq]
  exact callP (cf := cf23) (np := 1) (args' := [u8 (.ofNat r)]) (by kernel_rfl) (by kernel_rfl) rfl rfl rfl ((s23_eq _ _ _ _).trans (b23 n hn _ _ r hr)) (ansN_er _) (ansN_plain _ _)
theorem c24 (n : Nat) (hn : 1 ≤ n) (E : Heap) (s : ASt) (r : Nat) (hr : r < 256) : cl (mkEnv CP (n + 1) E) 24 [u8 (.ofNat r)] s = some (ansN r, s) := by
  rw [cl_eq]
  exact callP (cf := cf24) (np := 1) (args' := [u8 (.ofNat r)]) (by kernel_rfl) (by kernel_rfl) rfl rfl rfl ((s24_eq _ _ _ _).trans (b24 n hn _ _ r hr)) (ansN_er _) (ansN_plain _ _)
/-- The law, over any environment that knows the calls. -/
theorem law5 (e : Env) (n : Nat) (s : ASt) (r : Nat) (nm : ByteArray) (h12 : ∀ s, cl e 12 [] s = some (bl true, s)) (h23 : ∀ s, cl e 23 [u8 (.ofNat r)] s = some (ansN r, s)) (h24 : ∀ s, cl e 24 [u8 (.ofNat r)] s = some (ansN r, s))
    (h25 : ∀ s, cl e 25 [.p (.str nm)] s = some (ans (fnd nm nms 0), s)) (h26 : ∀ s, cl e 26 [.p (.str nm)] s = some (ans (fnd nm nms 0), s)) : s5 e n (u8 (.ofNat r)) (.p (.str nm)) s = some (bl true, s) := by
  have ii : ∀ a : Int, ieq a a = true := fun a => by rw [ieq_iff]; exact decide_eq_true rfl
  have ss : ∀ a : ByteArray, strEq a a = true := fun a => by rw [strEq_iff]; exact decide_eq_true rfl
  obtain ⟨a, b, ha⟩ : ∃ a b, ansN r = .tuple [.p (.str a), i64 b] := by
    unfold ansN
    cases (Nat.blt 0 r && Nat.blt r 23) <;> exact ⟨_, _, rfl⟩
  obtain ⟨c, d, hc⟩ : ∃ c d, ans (fnd nm nms 0) = .tuple [u8 c, i64 d] := by
    unfold ans
    cases ilt (fnd nm nms 0) 0 <;> exact ⟨_, _, rfl⟩
  unfold s5 s5_0
  simp only [ln_str, Option.bind_some, bn_cmp, binInt, Option.map_some, condV_bool]
  cases ilt 100 (Int.ofNat (strLen nm)) with
  | true => simp only [cond_true, h12, bind2_some]
  | false =>
    simp only [cond_false, h23, h24, h25, h26, bind2_some, ha, hc, ex_tuple, lget, Nat.beq, cond_true, Option.bind_some, bn_cmp, binInt, Option.map_some, condV_bool, ii, bn_str, binStr, ss, h12, jn_eq, Nat.sub_self]
end Go.AI.Tryz
