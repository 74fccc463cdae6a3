/- The frame of the claim. No condition. -/
import Derived.Test.YtekdpkhnpoimcaaGreatDoorCards
import Derived.Test.YtekdpkhnpoimcaaGreatDoorTie
import Derived.WalkKit
import Derived.ProofKit
import Derived.OpenShut
import Derived.ShutString
import Derived.ChangeMaps5
import Derived.Lib.LaidU8
import Derived.Lib.LaidTab
import Derived.Deep.DeepHandedRow
import Derived.LaidMore
import Derived.Lay
import Derived.SevenTiedAt
import Derived.Stop.Joined
import Derived.Shelf.LaysM
import Derived.Test.YtekdpkhnpoimcaaGreatDoorWk
set_option linter.unusedVariables false
set_option linter.unusedSimpArgs false
namespace Go.Proofs.YtekdpkhnpoimcaaGreatDoor.libNames
open Go.ChangeShapes Go.WideShapes Go.ChangeAt Go.RowKit
open Go.ChangeMaps (open_string shut_string)
open Go.AI.Tryz (spaces)
theorem own : ownKnob Tryz.prog.godebug = none := by kernel_rfl
theorem gTab : Tryz.prog.globalNamed "strings.asciiSpace" = some 4 := by kernel_rfl
theorem gTabType : (Tryz.prog.globals[4]?).map (·.type) = some 239 := by kernel_rfl
theorem qmS : Tryz.prog.cellsOf 239 = 256 := by kernel_rfl
theorem qqu : Tryz.prog.cellsOf 5 = 1 := by kernel_rfl
theorem qqv : (Rows.laid_strings_asciiSpace : DataW Unit) = Lib.tabData .u8 spaces := by kernel_rfl
theorem qnn (W : World) : laidMetH Tryz.prog Rows.libNamesRow.laid W = laidMet Tryz.prog Rows.libNamesRow.laid W := MakeChecks.laidMetH_plain _ _ _ (by kernel_rfl)
theorem qmT {W : World} (h : laidMetH Tryz.prog Rows.libNamesRow.laid W) (i : Nat) (hi : i < 256) : W.cell? ⟨4, i, none⟩ = some (.int .u8 (spaces.getD i 0)) := by
  rw [qnn] at h
  obtain ⟨g, t, cs, fuel, p, hg, ht, hv, hd⟩ := Lib.laidMet.reads h (n := "strings.asciiSpace") (d := Rows.laid_strings_asciiSpace) (by simp [Rows.libNamesRow])
  obtain rfl := Option.some.inj (gTab.symm.trans hg)
  obtain rfl := Option.some.inj (gTabType.symm.trans ht)
  rw [qqv] at hd
  have e := Lib.cells_of_tab Tryz.underlying239 Tryz.underlying5 qqu qmS hd
  have hl : spaces.length = 256 := by kernel_rfl
  have := World.var?_cell hg hv i
  rw [this, ← Array.getElem?_toList, e]
  simp [List.getD, hl, hi]
theorem qmU {W : World} (h : W.ShapedOpen Tryz.prog) : ∃ m, W.cell? ⟨0, 0, none⟩ = some (.int .i64 m) :=
  Go.Proofs.cell_of_shapedOpen_int (zero := #[.int .i64 0]) (t := 3) h (of_decide_eq_true (by kernel_rfl)) (by kernel_rfl) rfl (by kernel_rfl) (by kernel_rfl) Tryz.underlying3
set_option maxRecDepth 100000 in
theorem lifted (os : Os) (started : os.Started) (H : Type) (enc : TypeId × Value → H) (F : Stop.Interp) :
    ReturnsInHanded {} Tryz.checked os 3 .any ((OpenSpec.ofChange Rows.libNamesSpec).preRow enc Tryz.prog Tryz.f3 Rows.libNamesRow.domain false Rows.libNamesRow.laid) (((OpenSpec.ofChange Rows.libNamesSpec).at F).post enc Tryz.prog Tryz.f3 false true false false) := by
  have hx : ∃ places, DataW.whole enc Tryz.prog ((World.laidAll Tryz.prog os Rows.libNamesRow.laid).forCall (fun _ _ => 0) ⟨#[], #[], []⟩).memory Tryz.f3.params.toList Rows.libNamesSpec.vars false (#[] : Array Value).toList 8 = some ([], [], places) := ⟨[], by kernel_rfl⟩
  obtain ⟨places, hx⟩ := hx
  refine returnsInHanded_of_row (C := Tryz.checked) (s := OpenSpec.ofChange Rows.libNamesSpec) own started (by kernel_rfl) Tryz.func3
    ⟨World.laidAll Tryz.prog os Rows.libNamesRow.laid, fun _ _ => 0, ⟨#[], #[], []⟩, World.laidAll_os _ _ _, World.shaped_of_ZipB (by kernel_rfl) (by kernel_rfl), rfl,
      (Input.okWide_of_okWideB (by kernel_rfl)).2, OpenSpec.preRow_of_cond 8 hx (by kernel_rfl) (fun k hk => by cases hk) (by kernel_rfl) ((qnn _).symm ▸ laidMet_laidAll _ (by kernel_rfl) (by kernel_rfl)), by
        simp only [Assume.holds]
        exact ⟨by simp, by simp, fun h => (by cases h), by simp, by simp⟩⟩ ?_
  intro W base args ds gs before hval0 hW _ _ _ hL hsh _
  have hW' := hW
  obtain ⟨p, q, hA0, hV, rfl, hfz, hnd⟩ := hW
  have hA : DataW.TrodAll enc Tryz.prog W 0 (fun _ => true) true Tryz.f3.params.toList args.toList ds p := hA0
  rw [Tryz.params3] at hA
  obtain ⟨h1, h2, rfl⟩ := trodAll_nil hA
  obtain rfl : args = #[] := by cases args; simp_all
  subst h2
  obtain ⟨rfl, rfl⟩ := trodVars_none hV
  clear hA0 hval0
  obtain ⟨m, hm⟩ := qmU hsh
  refine (Go.AI.Tryz.walk m W hm (fun i hi => qmT hL i hi)).mono fun e W' ⟨he, hg⟩ => ?_
  subst he
  simp only [List.append_nil] at hW'
  exact ⟨_, rfl, _, _, _, [], [], [], hW', trodAll_cons_mk (shut_bool Tryz.underlying4 true) trodAll_mk0, trodAll_mk0, rfl, hg.frame _, fun h => by cases h⟩
end Go.Proofs.YtekdpkhnpoimcaaGreatDoor.libNames
