/- The frame of the claim: the facts that are joined. No condition. -/
import Derived.Test.YtphamhlcoeodgaaGreatDoorCards
import Derived.ProofKit
import Derived.Stop.Joined
import Derived.KernelRfl
namespace Go.Proofs.YtphamhlcoeodgaaGreatDoor.libTexts
set_option maxRecDepth 100000 in
theorem fact0 : (Rows.libTextsRow.wf (OpenSpec.ofChange (OpenSpec.ofChange Rows.libTextsSpec).bare)) = true := by kernel_rfl
set_option maxRecDepth 100000 in
theorem fact1 : (laidOutB Tryz.pinned.checked.prog) = true := by kernel_rfl
set_option maxRecDepth 100000 in
theorem fact2 : (mapsRowed Tryz.pinned.checked.prog) = true := by kernel_rfl
set_option maxRecDepth 100000 in
theorem fact3 : (Tryz.f3.params.all (Tryz.pinned.checked.prog.readableRec ·)) = true := by kernel_rfl
set_option maxRecDepth 100000 in
theorem fact4 : (namedTie Tryz.pinned.checked.prog Rows.libTextsRow.named (OpenSpec.ofChange Rows.libTextsSpec).bare.vars) = true := by kernel_rfl
set_option maxRecDepth 100000 in
theorem fact5 : ((Rows.libTextsRow.stops == [])) = true := by kernel_rfl
set_option maxRecDepth 100000 in
theorem fact6 : ((Tryz.pinned.checked.prog.stops == [])) = true := by kernel_rfl
set_option maxRecDepth 100000 in
theorem fact7 : ((Rows.libTextsRow.knobs == [])) = true := by kernel_rfl
set_option maxRecDepth 100000 in
theorem fact8 : ((Tryz.pinned.checked.prog.stopKnobs == [])) = true := by kernel_rfl
set_option maxRecDepth 100000 in
theorem fact9 : ((Rows.libTextsRow.inPlace == Tryz.pinned.checked.prog.inPlace 3)) = true := by kernel_rfl
set_option maxRecDepth 100000 in
theorem fact10 : ((Rows.libTextsRow.unfollowed == Tryz.pinned.checked.prog.unfollowed 3)) = true := by kernel_rfl
set_option maxRecDepth 100000 in
theorem fact11 : ((Rows.libTextsRow.recurses == Tryz.pinned.checked.prog.recurses 3)) = true := by kernel_rfl
set_option maxRecDepth 100000 in
theorem fact12 : ((Rows.libTextsRow.named == Tryz.pinned.checked.prog.varsNamed 3)) = true := by kernel_rfl
set_option maxRecDepth 100000 in
theorem fact13 : ((Rows.libTextsRow.maps == (Tryz.f3.params.toList ++ (OpenSpec.ofChange Rows.libTextsSpec).bare.plain.varTypes Tryz.pinned.checked.prog).any (Tryz.pinned.checked.prog.mapsRec ·))) = true := by kernel_rfl
set_option maxRecDepth 100000 in
theorem fact14 : ((Rows.libTextsRow.ifaces == (Tryz.f3.params.toList ++ (OpenSpec.ofChange Rows.libTextsSpec).bare.plain.varTypes Tryz.pinned.checked.prog).any (Tryz.pinned.checked.prog.ifacesRec ·))) = true := by kernel_rfl
set_option maxRecDepth 100000 in
theorem fact15 : ((Rows.libTextsRow.mapsOut == Tryz.pinned.checked.prog.mapsAmong Tryz.f3.resultTypes.toList)) = true := by kernel_rfl
set_option maxRecDepth 100000 in
theorem fact16 : ((Rows.libTextsRow.loops == (Tryz.f3.params.toList ++ (OpenSpec.ofChange Rows.libTextsSpec).bare.plain.varTypes Tryz.pinned.checked.prog).any (Tryz.pinned.checked.prog.loopsFrom ·))) = true := by kernel_rfl
set_option maxRecDepth 100000 in
theorem fact17 : ((Rows.libTextsRow.wideKeys == (Tryz.f3.params.toList ++ (OpenSpec.ofChange Rows.libTextsSpec).bare.plain.varTypes Tryz.pinned.checked.prog ++ Tryz.f3.resultTypes.toList).any (Tryz.pinned.checked.prog.wideKeysFrom ·))) = true := by kernel_rfl
set_option maxRecDepth 100000 in
theorem fact18 : ((OpenSpec.ofChange Rows.libTextsSpec).bare.vars.all (Tryz.pinned.checked.prog.varReadable ·)) = true := by kernel_rfl
set_option maxRecDepth 100000 in
theorem fact19 : (Tryz.f3.resultTypes.all (fun t => Tryz.pinned.checked.prog.readableRec t && decide (t < Tryz.pinned.checked.prog.types.size))) = true := by kernel_rfl
set_option maxRecDepth 100000 in
theorem fact20 : ((Rows.libTextsRow.ifacesOut == Tryz.f3.resultTypes.toList.any (Tryz.pinned.checked.prog.ifacesRec ·))) = true := by kernel_rfl
set_option maxRecDepth 100000 in
theorem fact21 : ((Rows.libTextsRow.loopsOut == Tryz.f3.resultTypes.toList.any (Tryz.pinned.checked.prog.loopsFrom ·))) = true := by kernel_rfl
set_option maxRecDepth 100000 in
theorem fact22 : ((Rows.libTextsRow.plainKeys == Tryz.pinned.checked.prog.plainKeys)) = true := by kernel_rfl
set_option maxRecDepth 100000 in
theorem fact23 : (Rows.libTextsRow.shortTexts.isNone) = true := by kernel_rfl
set_option maxRecDepth 100000 in
theorem fact24 : (Tryz.pinned.checked.prog.stopsHeard) = true := by kernel_rfl
set_option maxRecDepth 100000 in
theorem fact25 : (Tryz.pinned.checked.prog.mayEnter) = true := by kernel_rfl
set_option maxRecDepth 100000 in
theorem fact26 : ((Rows.libTextsRow.lifted == Tryz.pinned.checked.prog.liftsFinal)) = true := by kernel_rfl
set_option maxRecDepth 100000 in
theorem fact27 : ((Tryz.pinned.checked.prog.make == some Rows.libTextsRow.make)) = true := by kernel_rfl
set_option maxRecDepth 100000 in
theorem fact29 : ((Rows.libTextsRow.pinned == Rows.libTextsRow.pinnedBy)) = true := by kernel_rfl
set_option maxRecDepth 100000 in
theorem fact30 : ((Rows.libTextsRow.veiled == (Tryz.f3.params.toList ++ (OpenSpec.ofChange Rows.libTextsSpec).bare.plain.varTypes Tryz.pinned.checked.prog ++ Tryz.f3.resultTypes.toList).any (Tryz.pinned.checked.prog.veiledRec ·))) = true := by kernel_rfl
set_option maxRecDepth 100000 in
theorem fact31 : (Rows.libTextsRow.veiledFits Tryz.pinned.checked.prog Tryz.f3.params.toList (Tryz.f3.params.toList ++ (OpenSpec.ofChange Rows.libTextsSpec).bare.plain.varTypes Tryz.pinned.checked.prog ++ Tryz.f3.resultTypes.toList)) = true := by kernel_rfl
set_option maxRecDepth 100000 in
theorem facts : joinedFacts Tryz.pinned.checked.prog 3 Tryz.f3 (OpenSpec.ofChange Rows.libTextsSpec).bare Rows.libTextsRow = true := by
  unfold joinedFacts
  with_reducible refine Bool.and_eq_true_iff.mpr ⟨?_, fact31⟩
  with_reducible refine Bool.and_eq_true_iff.mpr ⟨?_, fact30⟩
  with_reducible refine Bool.and_eq_true_iff.mpr ⟨?_, fact29⟩
  with_reducible refine Bool.and_eq_true_iff.mpr ⟨?_, (by kernel_rfl)⟩
  with_reducible refine Bool.and_eq_true_iff.mpr ⟨?_, fact27⟩
  with_reducible refine Bool.and_eq_true_iff.mpr ⟨?_, fact26⟩
  with_reducible refine Bool.and_eq_true_iff.mpr ⟨?_, fact25⟩
  with_reducible refine Bool.and_eq_true_iff.mpr ⟨?_, fact24⟩
  with_reducible refine Bool.and_eq_true_iff.mpr ⟨?_, fact23⟩
  with_reducible refine Bool.and_eq_true_iff.mpr ⟨?_, fact22⟩
  with_reducible refine Bool.and_eq_true_iff.mpr ⟨?_, fact21⟩
  with_reducible refine Bool.and_eq_true_iff.mpr ⟨?_, fact20⟩
  with_reducible refine Bool.and_eq_true_iff.mpr ⟨?_, fact19⟩
  with_reducible refine Bool.and_eq_true_iff.mpr ⟨?_, fact18⟩
  with_reducible refine Bool.and_eq_true_iff.mpr ⟨?_, fact17⟩
  with_reducible refine Bool.and_eq_true_iff.mpr ⟨?_, fact16⟩
  with_reducible refine Bool.and_eq_true_iff.mpr ⟨?_, fact15⟩
  with_reducible refine Bool.and_eq_true_iff.mpr ⟨?_, fact14⟩
  with_reducible refine Bool.and_eq_true_iff.mpr ⟨?_, fact13⟩
  with_reducible refine Bool.and_eq_true_iff.mpr ⟨?_, fact12⟩
  with_reducible refine Bool.and_eq_true_iff.mpr ⟨?_, fact11⟩
  with_reducible refine Bool.and_eq_true_iff.mpr ⟨?_, fact10⟩
  with_reducible refine Bool.and_eq_true_iff.mpr ⟨?_, fact9⟩
  with_reducible refine Bool.and_eq_true_iff.mpr ⟨?_, fact8⟩
  with_reducible refine Bool.and_eq_true_iff.mpr ⟨?_, fact7⟩
  with_reducible refine Bool.and_eq_true_iff.mpr ⟨?_, fact6⟩
  with_reducible refine Bool.and_eq_true_iff.mpr ⟨?_, fact5⟩
  with_reducible refine Bool.and_eq_true_iff.mpr ⟨?_, fact4⟩
  with_reducible refine Bool.and_eq_true_iff.mpr ⟨?_, fact3⟩
  with_reducible refine Bool.and_eq_true_iff.mpr ⟨?_, fact2⟩
  with_reducible refine Bool.and_eq_true_iff.mpr ⟨?_, fact1⟩
  exact fact0
end Go.Proofs.YtphamhlcoeodgaaGreatDoor.libTexts
