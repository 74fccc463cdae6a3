/- The walk. No condition. -/
import Derived.Test.YtphamhlcoeodgaaGreatDoorPe
import Derived.Test.YtphamhlcoeodgaaGreatDoorPc
import Derived.Test.YtphamhlcoeodgaaGreatDoorR0
import Derived.Test.YtphamhlcoeodgaaGreatDoorR1
import Derived.Test.YtphamhlcoeodgaaGreatDoorR2
import Derived.Test.YtphamhlcoeodgaaGreatDoorR3
import Derived.Test.YtphamhlcoeodgaaGreatDoorR4
import Derived.Test.YtphamhlcoeodgaaGreatDoorR5
import Derived.Test.YtphamhlcoeodgaaGreatDoorR6
import Derived.Test.YtphamhlcoeodgaaGreatDoorR7
import Derived.Test.YtphamhlcoeodgaaGreatDoorR8
import Derived.Test.YtphamhlcoeodgaaGreatDoorR9
import Derived.Test.YtphamhlcoeodgaaGreatDoorR10
import Derived.Test.YtphamhlcoeodgaaGreatDoorR11
import Derived.Test.YtphamhlcoeodgaaGreatDoorR12
import Derived.Test.YtphamhlcoeodgaaGreatDoorR13
import Derived.Test.YtphamhlcoeodgaaGreatDoorR14
import Derived.Test.YtphamhlcoeodgaaGreatDoorR15
import Derived.Test.YtphamhlcoeodgaaGreatDoorR16
import Derived.Test.YtphamhlcoeodgaaGreatDoorR17
import Derived.Test.YtphamhlcoeodgaaGreatDoorR18
set_option linter.unusedVariables false
set_option linter.unusedSimpArgs false
namespace Go.AI.Tryz
open Go.Proofs Go.RowKit
def spaces : List Int := (List.range 256).map fun c => if c = 9 ∨ c = 10 ∨ c = 11 ∨ c = 12 ∨ c = 13 ∨ c = 32 then 1 else 0
theorem qn2 : tbl = spaces.map (zP.int .u8) := by kernel_rfl
theorem qlu : spaces.length = 256 := by kernel_rfl
theorem qpF : tbl.all qmA = true := by kernel_rfl
theorem vin {W : World} {m : Int} (hm : W.cell? ⟨0, 0, none⟩ = some (.int .i64 m)) (ht : ∀ i, i < 256 → W.cell? ⟨4, i, none⟩ = some (.int .u8 (spaces.getD i 0))) : qkQ [(4, tbl), (0, [.int .i64 m])] W := by
  intro g ps h
  simp only [qap] at h
  cases h4 : Nat.beq 4 g with
  | true =>
    rw [h4] at h
    simp only [cond_true, Option.some.injEq] at h
    subst h
    have : g = 4 := (beq_iff.1 h4).symm
    subst this
    refine ⟨qpF, by rw [qn2, List.length_map, qlu]; decide, fun i p hp => ?_⟩
    rw [qn2, List.getElem?_map] at hp
    simp only [Option.map_eq_some_iff] at hp
    obtain ⟨a, ha, rfl⟩ := hp
    obtain ⟨hi, hai⟩ := List.getElem?_eq_some_iff.1 ha
    refine ⟨_, ht i (by rw [qlu] at hi; exact hi), fun S w => ?_⟩
    have : spaces.getD i 0 = a := by rw [List.getD_eq_getElem?_getD, ha]; rfl
    rw [this]
    exact .int _ _
  | false =>
    rw [h4] at h
    simp only [cond_false] at h
    cases h0 : Nat.beq 0 g with
    | false => rw [h0] at h; cases h
    | true =>
      rw [h0] at h
      simp only [cond_true, Option.some.injEq] at h
      subst h
      have : g = 0 := (beq_iff.1 h0).symm
      subst this
      refine ⟨rfl, by simp, fun i p hp => ?_⟩
      cases i with
      | zero =>
        simp only [List.getElem?_cons_zero, Option.some.injEq] at hp
        subst hp
        exact ⟨_, hm, fun S w => .int _ _⟩
      | succ i => simp at hp
theorem some3 : (CP 3).isSome = true := by kernel_rfl
abbrev Run (m : Int) (a : zA) (n : Int) : Prop := isT ((qah CP spL 100000 (EM m)).call 3 [a, .p (.int .i64 n)] s00) = true
theorem use {W : World} {nm : ByteArray} {n m : Int} {a : zA} (hm : W.cell? ⟨0, 0, none⟩ = some (.int .i64 m)) (ht : ∀ i, i < 256 → W.cell? ⟨4, i, none⟩ = some (.int .u8 (spaces.getD i 0)))
    (h : Run m a n) (hv : ∀ G w, VR G w a (.string nm)) : Calls Tryz.prog 3 #[.string nm, .int .i64 n] W fun e w' => e = .returned (.bool true) ∧ Below W.heap.size W w' :=
  qpC pk okL h some3 (vin hm ht) fun G w => .cons (hv G w) (.cons (.p _ _ (.int _ _)) .nil)
theorem qq4 (m n : Int) : Run m (.p (.str ⟨#[99, 111, 112, 121]⟩)) n := match n with
  | .negSucc k => qi4 m k
  | .ofNat 0 => qnl m
  | .ofNat 1 => qmW m
  | .ofNat 2 => qmX m
  | .ofNat 3 => qmY m
  | .ofNat 4 => qmZ m
  | .ofNat 5 => qm0 m
  | .ofNat 6 => qm1 m
  | .ofNat 7 => qm7 m
  | .ofNat 8 => qm8 m
  | .ofNat 9 => qm9 m
  | .ofNat 10 => qk2 m
  | .ofNat 11 => qk3 m
  | .ofNat 12 => qk4 m
  | .ofNat (j + 13) => qi5 m j
theorem qpG (m n : Int) : Run m (.p (.str ⟨#[116, 119, 105, 99, 101]⟩)) n := match n with
  | .negSucc k => qhs m k
  | .ofNat 0 => qlo m
  | .ofNat 1 => qld m
  | .ofNat 2 => qle m
  | .ofNat 3 => qlf m
  | .ofNat 4 => qlg m
  | .ofNat 5 => qlh m
  | .ofNat 6 => qli m
  | .ofNat (j + 7) => qht m j
theorem qq5 (m n : Int) : Run m (.p (.str ⟨#[109, 101, 109, 111]⟩)) n := match n with
  | .negSucc k => qi6 m k
  | .ofNat 0 => qnm m
  | .ofNat 1 => qnc m
  | .ofNat 2 => qnd m
  | .ofNat 3 => qne m
  | .ofNat 4 => qnf m
  | .ofNat 5 => qng m
  | .ofNat 6 => qnh m
  | .ofNat (j + 7) => qi7 m j
theorem qpH (m n : Int) : Run m (.p (.str ⟨#[99, 111, 117, 110, 116]⟩)) n := match n with
  | .negSucc k => qhu m k
  | .ofNat 0 => qlp m
  | .ofNat 1 => qlq m
  | .ofNat 2 => qlj m
  | .ofNat 3 => qlk m
  | .ofNat 4 => qll m
  | .ofNat 5 => qlm m
  | .ofNat 6 => qln m
  | .ofNat (j + 7) => qhv m j
theorem qpI (m n : Int) : Run m (.p (.str ⟨#[99, 97, 116, 99, 104]⟩)) n := match n with
  | .negSucc k => qhw m k
  | .ofNat 0 => qlr m
  | .ofNat 1 => qkU m
  | .ofNat 2 => qkV m
  | .ofNat 3 => qkW m
  | .ofNat 4 => qkX m
  | .ofNat 5 => qkY m
  | .ofNat 6 => qk5 m
  | .ofNat 7 => qk6 m
  | .ofNat 8 => qk7 m
  | .ofNat 9 => qk8 m
  | .ofNat 10 => qiV m
  | .ofNat 11 => qiW m
  | .ofNat 12 => qiX m
  | .ofNat 13 => qiY m
  | .ofNat 14 => qiZ m
  | .ofNat 15 => qi0 m
  | .ofNat 16 => qi1 m
  | .ofNat (j + 17) => qhx m j
theorem qq6 (m n : Int) : Run m (.p (.str ⟨#[108, 111, 111, 112]⟩)) n := match n with
  | .negSucc k => qi8 m k
  | .ofNat 0 => qnn m
  | .ofNat 1 => qno m
  | .ofNat 2 => qni m
  | .ofNat 3 => qnj m
  | .ofNat 4 => qnk m
  | .ofNat (j + 5) => qi9 m j
theorem qq7 (m n : Int) : Run m (.p (.str ⟨#[108, 111, 99, 107]⟩)) n := match n with
  | .negSucc k => qja m k
  | .ofNat 0 => qnp m
  | .ofNat 1 => qnq m
  | .ofNat 2 => qna m
  | .ofNat (j + 3) => qjb m j
theorem qq8 (m n : Int) : Run m (.p (.str ⟨#[111, 110, 99, 101]⟩)) n := match n with
  | .negSucc k => qjc m k
  | .ofNat 0 => qnr m
  | .ofNat 1 => qns m
  | .ofNat 2 => qnb m
  | .ofNat (j + 3) => qjd m j
theorem qq9 (m n : Int) : Run m (.p (.str ⟨#[115, 111, 114, 116]⟩)) n := match n with
  | .negSucc k => qje m k
  | .ofNat 0 => qnt m
  | .ofNat 1 => qnu m
  | .ofNat 2 => qmV m
  | .ofNat 3 => qm6 m
  | .ofNat (j + 4) => qjf m j
theorem qra (m n : Int) : Run m (.p (.str ⟨#[102, 111, 108, 100]⟩)) n := match n with
  | .negSucc k => qjg m k
  | .ofNat 0 => qnv m
  | .ofNat 1 => qm2 m
  | .ofNat 2 => qm3 m
  | .ofNat 3 => qm4 m
  | .ofNat 4 => qm5 m
  | .ofNat (j + 5) => qjh m j
theorem qnw (m n : Int) : Run m (.p (.str ⟨#[101, 105, 116, 104, 101, 114]⟩)) n := match n with
  | .negSucc k => qgQ m k
  | .ofNat 0 => qji m
  | .ofNat 1 => qjj m
  | .ofNat 2 => qi2 m
  | .ofNat (j + 3) => qgR m j
theorem qpJ (m n : Int) : Run m (.p (.str ⟨#[117, 110, 116, 105, 108]⟩)) n := match n with
  | .negSucc k => qhy m k
  | .ofNat 0 => qls m
  | .ofNat 1 => qlt m
  | .ofNat 2 => qkZ m
  | .ofNat 3 => qk0 m
  | .ofNat 4 => qk1 m
  | .ofNat 5 => qk9 m
  | .ofNat 6 => qla m
  | .ofNat 7 => qlb m
  | .ofNat 8 => qlc m
  | .ofNat (j + 9) => qhz m j
theorem qnx (m n : Int) : Run m (.p (.str ⟨#[99, 97, 117, 103, 104, 116]⟩)) n := match n with
  | .negSucc k => qgS m k
  | .ofNat 0 => qjk m
  | .ofNat 1 => qjl m
  | .ofNat 2 => qjm m
  | .ofNat 3 => qi3 m
  | .ofNat (j + 4) => qgT m j
theorem walk (nm : ByteArray) (n m : Int) (W : World) (hm : W.cell? ⟨0, 0, none⟩ = some (.int .i64 m)) (ht : ∀ i, i < 256 → W.cell? ⟨4, i, none⟩ = some (.int .u8 (spaces.getD i 0))) :
    Calls Tryz.prog 3 #[.string nm, .int .i64 n] W fun e w' => e = .returned (.bool true) ∧ Below W.heap.size W w' := by
  by_cases h_copy : nm = ⟨#[99, 111, 112, 121]⟩
  · subst h_copy; exact use hm ht (qq4 m n) fun G w => .p _ _ (.str _)
  by_cases h_twice : nm = ⟨#[116, 119, 105, 99, 101]⟩
  · subst h_twice; exact use hm ht (qpG m n) fun G w => .p _ _ (.str _)
  by_cases h_memo : nm = ⟨#[109, 101, 109, 111]⟩
  · subst h_memo; exact use hm ht (qq5 m n) fun G w => .p _ _ (.str _)
  by_cases h_count : nm = ⟨#[99, 111, 117, 110, 116]⟩
  · subst h_count; exact use hm ht (qpH m n) fun G w => .p _ _ (.str _)
  by_cases h_catch : nm = ⟨#[99, 97, 116, 99, 104]⟩
  · subst h_catch; exact use hm ht (qpI m n) fun G w => .p _ _ (.str _)
  by_cases h_loop : nm = ⟨#[108, 111, 111, 112]⟩
  · subst h_loop; exact use hm ht (qq6 m n) fun G w => .p _ _ (.str _)
  by_cases h_lock : nm = ⟨#[108, 111, 99, 107]⟩
  · subst h_lock; exact use hm ht (qq7 m n) fun G w => .p _ _ (.str _)
  by_cases h_once : nm = ⟨#[111, 110, 99, 101]⟩
  · subst h_once; exact use hm ht (qq8 m n) fun G w => .p _ _ (.str _)
  by_cases h_sort : nm = ⟨#[115, 111, 114, 116]⟩
  · subst h_sort; exact use hm ht (qq9 m n) fun G w => .p _ _ (.str _)
  by_cases h_fold : nm = ⟨#[102, 111, 108, 100]⟩
  · subst h_fold; exact use hm ht (qra m n) fun G w => .p _ _ (.str _)
  by_cases h_either : nm = ⟨#[101, 105, 116, 104, 101, 114]⟩
  · subst h_either; exact use hm ht (qnw m n) fun G w => .p _ _ (.str _)
  by_cases h_until : nm = ⟨#[117, 110, 116, 105, 108]⟩
  · subst h_until; exact use hm ht (qpJ m n) fun G w => .p _ _ (.str _)
  by_cases h_caught : nm = ⟨#[99, 97, 117, 103, 104, 116]⟩
  · subst h_caught; exact use hm ht (qnx m n) fun G w => .p _ _ (.str _)
  rcases Nat.lt_or_ge (qaJ nm) 101 with hl | hl
  · refine use hm ht (List.all_eq_true.1 (qq3 nm m n) (qaJ nm) (List.mem_range.2 hl)) fun G w => .sym nm names _ (fun l h => ?_) rfl
    rw [qcp]
    refine decide_eq_false fun e => ?_
    subst e
    simp only [names, List.mem_cons, List.not_mem_nil, or_false] at h
    rcases h with h | h | h | h | h | h | h | h | h | h | h | h | h
    · exact h_copy h
    · exact h_twice h
    · exact h_memo h
    · exact h_count h
    · exact h_catch h
    · exact h_loop h
    · exact h_lock h
    · exact h_once h
    · exact h_sort h
    · exact h_fold h
    · exact h_either h
    · exact h_until h
    · exact h_caught h
  · exact use hm ht (qq2 nm m n (qaJ nm - 101)) fun G w => .sym nm [] _ (fun l h => by cases h) (by omega)
end Go.AI.Tryz
#print axioms Go.AI.Tryz.walk
