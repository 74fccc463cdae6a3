/- The run of RulesNames over the facts. No condition. -/
import Derived.Test.YtgecccghlgpmjaaGreatFA
import Derived.Test.YtgecccghlgpmjaaGreatF1
import Derived.Test.YtgecccghlgpmjaaGreatF2
import Derived.Test.YtgecccghlgpmjaaGreatF3
import Derived.Test.YtgecccghlgpmjaaGreatCk
namespace Go.AI.Tryz
def M : List Fact := [⟨12, aw, .bool true⟩, ⟨35, a0, .bool true⟩, ⟨35, a1, .bool true⟩, ⟨35, a2, .bool true⟩, ⟨35, a3, .bool true⟩, ⟨35, a4, .bool true⟩, ⟨35, a5, .bool true⟩]
theorem aw_ok : FactOK Go.Proofs.Tryz.prog CP ⟨12, aw, .bool true⟩ := fact_of 1000 (by unfold runC; rw [← mkEnvF_eq]; exact aw_true)
theorem a0_ok : FactOK Go.Proofs.Tryz.prog CP ⟨35, a0, .bool true⟩ := fact_of 1000 (by unfold runC; rw [← mkEnvF_eq]; exact a0_true)
theorem a1_ok : FactOK Go.Proofs.Tryz.prog CP ⟨35, a1, .bool true⟩ := fact_of 1000 (by unfold runC; rw [← mkEnvF_eq]; exact a1_true)
theorem a2_ok : FactOK Go.Proofs.Tryz.prog CP ⟨35, a2, .bool true⟩ := fact_of 1000 (by unfold runC; rw [← mkEnvF_eq]; exact a2_true)
theorem a3_ok : FactOK Go.Proofs.Tryz.prog CP ⟨35, a3, .bool true⟩ := fact_of 1000 (by unfold runC; rw [← mkEnvF_eq]; exact a3_true)
theorem a4_ok : FactOK Go.Proofs.Tryz.prog CP ⟨35, a4, .bool true⟩ := fact_of 1000 (by unfold runC; rw [← mkEnvF_eq]; exact a4_true)
theorem a5_ok : FactOK Go.Proofs.Tryz.prog CP ⟨35, a5, .bool true⟩ := fact_of 1000 (by unfold runC; rw [← mkEnvF_eq]; exact a5_true)
theorem M_ok : ∀ x ∈ M, FactOK Go.Proofs.Tryz.prog CP x := by
  intro x hx
  simp only [M, List.mem_cons, List.not_mem_nil, or_false] at hx
  rcases hx with rfl | rfl | rfl | rfl | rfl | rfl | rfl
  · exact aw_ok
  · exact a0_ok
  · exact a1_ok
  · exact a2_ok
  · exact a3_ok
  · exact a4_ok
  · exact a5_ok
theorem names_true : isB true (runM CP M 1000 10) = true := by kernel_rfl
theorem names (w : World) : Calls Go.Proofs.Tryz.prog 10 #[] w fun e w' => e = .returned (.bool true) ∧ RowKit.Grown w w' := closed_memo pk M_ok names_true w
end Go.AI.Tryz
