/- The frame of the claim. No condition. -/
import Derived.Test.YtekdpkhnpoimcaaGreatDoorCards
import Derived.ProofKit
import Derived.Stop.Joined
import Derived.KernelRfl
set_option linter.unusedVariables false
set_option linter.unusedSimpArgs false
namespace Go.Proofs.YtekdpkhnpoimcaaGreatDoor.libNames
set_option maxRecDepth 100000 in
theorem qrE : (Rows.libNamesRow.wf (OpenSpec.ofChange (OpenSpec.ofChange Rows.libNamesSpec).bare)) = true := by kernel_rfl
set_option maxRecDepth 100000 in
theorem qrF : (laidOutB Tryz.pinned.checked.prog) = true := by kernel_rfl
set_option maxRecDepth 100000 in
theorem qrG : (mapsRowed Tryz.pinned.checked.prog) = true := by kernel_rfl
set_option maxRecDepth 100000 in
theorem qrH : (Tryz.f3.params.all (Tryz.pinned.checked.prog.readableRec ·)) = true := by kernel_rfl
set_option maxRecDepth 100000 in
theorem qrI : (namedTie Tryz.pinned.checked.prog Rows.libNamesRow.named (OpenSpec.ofChange Rows.libNamesSpec).bare.vars) = true := by kernel_rfl
set_option maxRecDepth 100000 in
theorem qrJ : ((Rows.libNamesRow.stops == [])) = true := by kernel_rfl
set_option maxRecDepth 100000 in
theorem qrK : ((Tryz.pinned.checked.prog.stops == [])) = true := by kernel_rfl
set_option maxRecDepth 100000 in
theorem qrL : ((Rows.libNamesRow.knobs == [])) = true := by kernel_rfl
set_option maxRecDepth 100000 in
theorem qrM : ((Tryz.pinned.checked.prog.stopKnobs == [])) = true := by kernel_rfl
set_option maxRecDepth 100000 in
theorem qrN : ((Rows.libNamesRow.inPlace == Tryz.pinned.checked.prog.inPlace 3)) = true := by kernel_rfl
set_option maxRecDepth 100000 in
theorem qqw : ((Rows.libNamesRow.unfollowed == Tryz.pinned.checked.prog.unfollowed 3)) = true := by kernel_rfl
set_option maxRecDepth 100000 in
theorem qqx : ((Rows.libNamesRow.recurses == Tryz.pinned.checked.prog.recurses 3)) = true := by kernel_rfl
set_option maxRecDepth 100000 in
theorem qqy : ((Rows.libNamesRow.named == Tryz.pinned.checked.prog.varsNamed 3)) = true := by kernel_rfl
set_option maxRecDepth 100000 in
theorem qqz : ((Rows.libNamesRow.maps == (Tryz.f3.params.toList ++ (OpenSpec.ofChange Rows.libNamesSpec).bare.plain.varTypes Tryz.pinned.checked.prog).any (Tryz.pinned.checked.prog.mapsRec ·))) = true := by kernel_rfl
set_option maxRecDepth 100000 in
theorem qqA : ((Rows.libNamesRow.ifaces == (Tryz.f3.params.toList ++ (OpenSpec.ofChange Rows.libNamesSpec).bare.plain.varTypes Tryz.pinned.checked.prog).any (Tryz.pinned.checked.prog.ifacesRec ·))) = true := by kernel_rfl
set_option maxRecDepth 100000 in
theorem qqB : ((Rows.libNamesRow.mapsOut == Tryz.pinned.checked.prog.mapsAmong Tryz.f3.resultTypes.toList)) = true := by kernel_rfl
set_option maxRecDepth 100000 in
theorem qqC : ((Rows.libNamesRow.loops == (Tryz.f3.params.toList ++ (OpenSpec.ofChange Rows.libNamesSpec).bare.plain.varTypes Tryz.pinned.checked.prog).any (Tryz.pinned.checked.prog.loopsFrom ·))) = true := by kernel_rfl
set_option maxRecDepth 100000 in
theorem qqD : ((Rows.libNamesRow.wideKeys == (Tryz.f3.params.toList ++ (OpenSpec.ofChange Rows.libNamesSpec).bare.plain.varTypes Tryz.pinned.checked.prog ++ Tryz.f3.resultTypes.toList).any (Tryz.pinned.checked.prog.wideKeysFrom ·))) = true := by kernel_rfl
set_option maxRecDepth 100000 in
theorem qqE : ((OpenSpec.ofChange Rows.libNamesSpec).bare.vars.all (Tryz.pinned.checked.prog.varReadable ·)) = true := by kernel_rfl
set_option maxRecDepth 100000 in
theorem qqF : (Tryz.f3.resultTypes.all (fun t => Tryz.pinned.checked.prog.readableRec t && decide (t < Tryz.pinned.checked.prog.types.size))) = true := by kernel_rfl
set_option maxRecDepth 100000 in
theorem qqG : ((Rows.libNamesRow.ifacesOut == Tryz.f3.resultTypes.toList.any (Tryz.pinned.checked.prog.ifacesRec ·))) = true := by kernel_rfl
set_option maxRecDepth 100000 in
theorem qqH : ((Rows.libNamesRow.loopsOut == Tryz.f3.resultTypes.toList.any (Tryz.pinned.checked.prog.loopsFrom ·))) = true := by kernel_rfl
set_option maxRecDepth 100000 in
theorem qqI : ((Rows.libNamesRow.plainKeys == Tryz.pinned.checked.prog.plainKeys)) = true := by kernel_rfl
set_option maxRecDepth 100000 in
theorem qqJ : (Rows.libNamesRow.shortTexts.isNone) = true := by kernel_rfl
set_option maxRecDepth 100000 in
theorem qqK : (Tryz.pinned.checked.prog.stopsHeard) = true := by kernel_rfl
set_option maxRecDepth 100000 in
theorem qqL : (Tryz.pinned.checked.prog.mayEnter) = true := by kernel_rfl
set_option maxRecDepth 100000 in
theorem qqM : ((Rows.libNamesRow.lifted == Tryz.pinned.checked.prog.liftsFinal)) = true := by kernel_rfl
set_option maxRecDepth 100000 in
theorem qqN : ((Tryz.pinned.checked.prog.make == some Rows.libNamesRow.make)) = true := by kernel_rfl
set_option maxRecDepth 100000 in
theorem qqO : ((Rows.libNamesRow.pinned == Rows.libNamesRow.pinnedBy)) = true := by kernel_rfl
set_option maxRecDepth 100000 in
theorem qqP : ((Rows.libNamesRow.veiled == (Tryz.f3.params.toList ++ (OpenSpec.ofChange Rows.libNamesSpec).bare.plain.varTypes Tryz.pinned.checked.prog ++ Tryz.f3.resultTypes.toList).any (Tryz.pinned.checked.prog.veiledRec ·))) = true := by kernel_rfl
set_option maxRecDepth 100000 in
theorem qqQ : (Rows.libNamesRow.veiledFits Tryz.pinned.checked.prog Tryz.f3.params.toList (Tryz.f3.params.toList ++ (OpenSpec.ofChange Rows.libNamesSpec).bare.plain.varTypes Tryz.pinned.checked.prog ++ Tryz.f3.resultTypes.toList)) = true := by kernel_rfl
set_option maxRecDepth 100000 in
theorem facts : joinedFacts Tryz.pinned.checked.prog 3 Tryz.f3 (OpenSpec.ofChange Rows.libNamesSpec).bare Rows.libNamesRow = true := by
  unfold joinedFacts
  with_reducible refine Bool.and_eq_true_iff.mpr ⟨?_, qqQ⟩
  with_reducible refine Bool.and_eq_true_iff.mpr ⟨?_, qqP⟩
  with_reducible refine Bool.and_eq_true_iff.mpr ⟨?_, qqO⟩
  with_reducible refine Bool.and_eq_true_iff.mpr ⟨?_, (by kernel_rfl)⟩
  with_reducible refine Bool.and_eq_true_iff.mpr ⟨?_, qqN⟩
  with_reducible refine Bool.and_eq_true_iff.mpr ⟨?_, qqM⟩
  with_reducible refine Bool.and_eq_true_iff.mpr ⟨?_, qqL⟩
  with_reducible refine Bool.and_eq_true_iff.mpr ⟨?_, qqK⟩
  with_reducible refine Bool.and_eq_true_iff.mpr ⟨?_, qqJ⟩
  with_reducible refine Bool.and_eq_true_iff.mpr ⟨?_, qqI⟩
  with_reducible refine Bool.and_eq_true_iff.mpr ⟨?_, qqH⟩
  with_reducible refine Bool.and_eq_true_iff.mpr ⟨?_, qqG⟩
  with_reducible refine Bool.and_eq_true_iff.mpr ⟨?_, qqF⟩
  with_reducible refine Bool.and_eq_true_iff.mpr ⟨?_, qqE⟩
  with_reducible refine Bool.and_eq_true_iff.mpr ⟨?_, qqD⟩
  with_reducible refine Bool.and_eq_true_iff.mpr ⟨?_, qqC⟩
  with_reducible refine Bool.and_eq_true_iff.mpr ⟨?_, qqB⟩
  with_reducible refine Bool.and_eq_true_iff.mpr ⟨?_, qqA⟩
  with_reducible refine Bool.and_eq_true_iff.mpr ⟨?_, qqz⟩
  with_reducible refine Bool.and_eq_true_iff.mpr ⟨?_, qqy⟩
  with_reducible refine Bool.and_eq_true_iff.mpr ⟨?_, qqx⟩
  with_reducible refine Bool.and_eq_true_iff.mpr ⟨?_, qqw⟩
  with_reducible refine Bool.and_eq_true_iff.mpr ⟨?_, qrN⟩
  with_reducible refine Bool.and_eq_true_iff.mpr ⟨?_, qrM⟩
  with_reducible refine Bool.and_eq_true_iff.mpr ⟨?_, qrL⟩
  with_reducible refine Bool.and_eq_true_iff.mpr ⟨?_, qrK⟩
  with_reducible refine Bool.and_eq_true_iff.mpr ⟨?_, qrJ⟩
  with_reducible refine Bool.and_eq_true_iff.mpr ⟨?_, qrI⟩
  with_reducible refine Bool.and_eq_true_iff.mpr ⟨?_, qrH⟩
  with_reducible refine Bool.and_eq_true_iff.mpr ⟨?_, qrG⟩
  with_reducible refine Bool.and_eq_true_iff.mpr ⟨?_, qrF⟩
  exact qrE
end Go.Proofs.YtekdpkhnpoimcaaGreatDoor.libNames
