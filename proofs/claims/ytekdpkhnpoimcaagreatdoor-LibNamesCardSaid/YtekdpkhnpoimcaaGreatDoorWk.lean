/- The walk. No condition. -/
import Derived.Test.YtekdpkhnpoimcaaGreatDoorR0
import Derived.Test.YtekdpkhnpoimcaaGreatDoorPd
set_option linter.unusedVariables false
set_option linter.unusedSimpArgs false
/- The law, walked: it returns true. -/
namespace Go.AI.Tryz
open Go.Proofs Go.RowKit
def spaces : List Int := (List.range 256).map fun c => if c = 9 ∨ c = 10 ∨ c = 11 ∨ c = 12 ∨ c = 13 ∨ c = 32 then 1 else 0
theorem qnm : tbl = spaces.map (zP.int .u8) := by kernel_rfl
theorem qlj : spaces.length = 256 := by kernel_rfl
theorem qo2 : tbl.all qmt = true := by kernel_rfl
theorem vin {W : World} {m : Int} (hm : W.cell? ⟨0, 0, none⟩ = some (.int .i64 m)) (ht : ∀ i, i < 256 → W.cell? ⟨4, i, none⟩ = some (.int .u8 (spaces.getD i 0))) : qld [(4, tbl), (0, [.int .i64 m])] W := by
  intro g ps h
  simp only [qap] at h
  cases h4 : Nat.beq 4 g with
  | true =>
    rw [h4] at h
    simp only [cond_true, Option.some.injEq] at h
    subst h
    have : g = 4 := (beq_iff.1 h4).symm
    subst this
    refine ⟨qo2, by rw [qnm, List.length_map, qlj]; decide, fun i p hp => ?_⟩
    rw [qnm, List.getElem?_map] at hp
    simp only [Option.map_eq_some_iff] at hp
    obtain ⟨a, ha, rfl⟩ := hp
    obtain ⟨hi, hai⟩ := List.getElem?_eq_some_iff.1 ha
    refine ⟨_, ht i (by rw [qlj] at hi; exact hi), fun S w => ?_⟩
    have : spaces.getD i 0 = a := by rw [List.getD_eq_getElem?_getD, ha]; rfl
    rw [this]
    exact .int _ _
  | false =>
    rw [h4] at h
    simp only [cond_false] at h
    cases h0 : Nat.beq 0 g with
    | false => rw [h0] at h; cases h
    | true =>
      rw [h0] at h
      simp only [cond_true, Option.some.injEq] at h
      subst h
      have : g = 0 := (beq_iff.1 h0).symm
      subst this
      refine ⟨rfl, by simp, fun i p hp => ?_⟩
      cases i with
      | zero =>
        simp only [List.getElem?_cons_zero, Option.some.injEq] at hp
        subst hp
        exact ⟨_, hm, fun S w => .int _ _⟩
      | succ i => simp at hp
theorem some3 : (CP 3).isSome = true := by kernel_rfl
theorem walk (m : Int) (W : World) (hm : W.cell? ⟨0, 0, none⟩ = some (.int .i64 m)) (ht : ∀ i, i < 256 → W.cell? ⟨4, i, none⟩ = some (.int .u8 (spaces.getD i 0))) :
    Calls Tryz.prog 3 #[] W fun e w' => e = .returned (.bool true) ∧ Below W.heap.size W w' :=
  qoZ pk okL (qqt m) some3 (vin hm ht) fun _ _ => .nil
end Go.AI.Tryz
#print axioms Go.AI.Tryz.walk
