/-
  NARROWER THAN 'FOR EVERY INPUT', by the rows' own cells (each row's printed sentence says how): RulesAlls: loops · RulesOne: loops · RulesOffers: loops · RulesRight: loops · RulesRedoes: loops · RulesEnd: loops.
  DERIVED. THE GIVEN ROWS OF THIS SEAT. 8 by the template 'for every input the law returns true; each argument reads behind the call as it read before'; 0 by the template 'total and deterministic' (their statements: YtgecccghlgpmjaaGreatTotals.lean).
  GIVEN WITH THE SEED: the statements are not yours to turn. If you find one false, say at which input.
  Laid BY PROGRAM, IN A SANDBOX (cutbox-rows.mjs): the forced cells as the released guide's own fill.sh prints them over the translation 042e9453a465ecf2… (all of the seat's roots in one cut). By AI agents, Wed Nov 11 2026. No macro, syntax, notation, axiom, sorry.
-/
import Derived.Test.YtgecccghlgpmjaaGreatChecked
import GoSem.Claim
import GoSem.ClaimJoined
import GoSem.ClaimMapViews
import Derived.JoinedTies
import Derived.KernelRfl
namespace Go.Proofs.YtgecccghlgpmjaaGreat
/- THE CELL 'sum', in the pinned program and in every row, IS THE sha256 OF THE DUMP (.gsa) THAT YtgecccghlgpmjaaGreatProg.lean LOADS. Nothing in Lean hashes anything: it is a label: what it is worth is what the hold of that sum in a sandbox is worth. -/
noncomputable def Tryz.pinned : Pinned := { name := "ytgecccghlgpmjaagreat", sum := "042e9453a465ecf23f945e6e314ae15dfc69a9e93e5a88ce826d79aab6c12342", checked := Tryz.checked }
namespace Rows
def none {H : Type} : Left H := { results := [], args := [] }

/-- 'ripostelaw15.RulesAlls': WHATEVER THE INPUT: true; the input reads as it did. -/
def rulesAllsSpec : ChangeSpec := { name := "rulesAlls", fn := fun _ => fun
  | [d1, d2, d3] => { results := [.lit (.bool true)], args := [d1, d2, d3] }
  | _ => none }
def rulesAllsRow : OpenClaim := { program := "ytgecccghlgpmjaagreat", sum := "042e9453a465ecf23f945e6e314ae15dfc69a9e93e5a88ce826d79aab6c12342", func := "riposte/ripostelaw15.RulesAlls", spec := "rulesAlls", unfollowed := true, recurses := true, loops := true, apart := false }
def RulesAllsSaid : Prop := rulesAllsRow.holds Tryz.pinned (OpenSpec.ofChange rulesAllsSpec)

/-- ITS FALSE NEIGHBOUR: 'it returns false'. Refute it at one input. -/
def rulesAllsWrong : ChangeSpec := { name := "rulesAlls", fn := fun _ => fun
  | [d1, d2, d3] => { results := [.lit (.bool false)], args := [d1, d2, d3] }
  | _ => none }
def RulesAllsWrongFalsely : Prop := rulesAllsRow.holds Tryz.pinned (OpenSpec.ofChange rulesAllsWrong)

/-- 'ripostelaw15.RulesOne': WHATEVER THE INPUT: true; the input reads as it did. -/
def rulesOneSpec : ChangeSpec := { name := "rulesOne", fn := fun _ => fun
  | [d1, d2] => { results := [.lit (.bool true)], args := [d1, d2] }
  | _ => none }
def rulesOneRow : OpenClaim := { program := "ytgecccghlgpmjaagreat", sum := "042e9453a465ecf23f945e6e314ae15dfc69a9e93e5a88ce826d79aab6c12342", func := "riposte/ripostelaw15.RulesOne", spec := "rulesOne", unfollowed := true, recurses := true, loops := true, apart := false }
def RulesOneSaid : Prop := rulesOneRow.holds Tryz.pinned (OpenSpec.ofChange rulesOneSpec)

/-- ITS FALSE NEIGHBOUR: 'it returns false'. Refute it at one input. -/
def rulesOneWrong : ChangeSpec := { name := "rulesOne", fn := fun _ => fun
  | [d1, d2] => { results := [.lit (.bool false)], args := [d1, d2] }
  | _ => none }
def RulesOneWrongFalsely : Prop := rulesOneRow.holds Tryz.pinned (OpenSpec.ofChange rulesOneWrong)

/-- 'ripostelaw15.RulesNamed': WHATEVER THE INPUT: true; the input reads as it did. -/
def rulesNamedSpec : ChangeSpec := { name := "rulesNamed", fn := fun _ => fun
  | [d1, d2] => { results := [.lit (.bool true)], args := [d1, d2] }
  | _ => none }
def rulesNamedRow : OpenClaim := { program := "ytgecccghlgpmjaagreat", sum := "042e9453a465ecf23f945e6e314ae15dfc69a9e93e5a88ce826d79aab6c12342", func := "riposte/ripostelaw15.RulesNamed", spec := "rulesNamed", unfollowed := true, recurses := true, apart := false }
def RulesNamedSaid : Prop := rulesNamedRow.holds Tryz.pinned (OpenSpec.ofChange rulesNamedSpec)

/-- ITS FALSE NEIGHBOUR: 'it returns false'. Refute it at one input. -/
def rulesNamedWrong : ChangeSpec := { name := "rulesNamed", fn := fun _ => fun
  | [d1, d2] => { results := [.lit (.bool false)], args := [d1, d2] }
  | _ => none }
def RulesNamedWrongFalsely : Prop := rulesNamedRow.holds Tryz.pinned (OpenSpec.ofChange rulesNamedWrong)

/-- 'ripostelaw15.RulesOffers': WHATEVER THE INPUT: true; the input reads as it did. -/
def rulesOffersSpec : ChangeSpec := { name := "rulesOffers", fn := fun _ => fun
  | [d1, d2, d3] => { results := [.lit (.bool true)], args := [d1, d2, d3] }
  | _ => none }
def rulesOffersRow : OpenClaim := { program := "ytgecccghlgpmjaagreat", sum := "042e9453a465ecf23f945e6e314ae15dfc69a9e93e5a88ce826d79aab6c12342", func := "riposte/ripostelaw15.RulesOffers", spec := "rulesOffers", unfollowed := true, recurses := true, loops := true, apart := false }
def RulesOffersSaid : Prop := rulesOffersRow.holds Tryz.pinned (OpenSpec.ofChange rulesOffersSpec)

/-- ITS FALSE NEIGHBOUR: 'it returns false'. Refute it at one input. -/
def rulesOffersWrong : ChangeSpec := { name := "rulesOffers", fn := fun _ => fun
  | [d1, d2, d3] => { results := [.lit (.bool false)], args := [d1, d2, d3] }
  | _ => none }
def RulesOffersWrongFalsely : Prop := rulesOffersRow.holds Tryz.pinned (OpenSpec.ofChange rulesOffersWrong)

/-- 'ripostelaw15.RulesRight': WHATEVER THE INPUT: true; the input reads as it did. -/
def rulesRightSpec : ChangeSpec := { name := "rulesRight", fn := fun _ => fun
  | [d1, d2, d3] => { results := [.lit (.bool true)], args := [d1, d2, d3] }
  | _ => none }
def rulesRightRow : OpenClaim := { program := "ytgecccghlgpmjaagreat", sum := "042e9453a465ecf23f945e6e314ae15dfc69a9e93e5a88ce826d79aab6c12342", func := "riposte/ripostelaw15.RulesRight", spec := "rulesRight", unfollowed := true, recurses := true, loops := true, apart := false }
def RulesRightSaid : Prop := rulesRightRow.holds Tryz.pinned (OpenSpec.ofChange rulesRightSpec)

/-- ITS FALSE NEIGHBOUR: 'it returns false'. Refute it at one input. -/
def rulesRightWrong : ChangeSpec := { name := "rulesRight", fn := fun _ => fun
  | [d1, d2, d3] => { results := [.lit (.bool false)], args := [d1, d2, d3] }
  | _ => none }
def RulesRightWrongFalsely : Prop := rulesRightRow.holds Tryz.pinned (OpenSpec.ofChange rulesRightWrong)

/-- 'ripostelaw15.RulesRedoes': WHATEVER THE INPUT: true; the input reads as it did. -/
def rulesRedoesSpec : ChangeSpec := { name := "rulesRedoes", fn := fun _ => fun
  | [d1, d2, d3] => { results := [.lit (.bool true)], args := [d1, d2, d3] }
  | _ => none }
def rulesRedoesRow : OpenClaim := { program := "ytgecccghlgpmjaagreat", sum := "042e9453a465ecf23f945e6e314ae15dfc69a9e93e5a88ce826d79aab6c12342", func := "riposte/ripostelaw15.RulesRedoes", spec := "rulesRedoes", unfollowed := true, recurses := true, loops := true, apart := false }
def RulesRedoesSaid : Prop := rulesRedoesRow.holds Tryz.pinned (OpenSpec.ofChange rulesRedoesSpec)

/-- ITS FALSE NEIGHBOUR: 'it returns false'. Refute it at one input. -/
def rulesRedoesWrong : ChangeSpec := { name := "rulesRedoes", fn := fun _ => fun
  | [d1, d2, d3] => { results := [.lit (.bool false)], args := [d1, d2, d3] }
  | _ => none }
def RulesRedoesWrongFalsely : Prop := rulesRedoesRow.holds Tryz.pinned (OpenSpec.ofChange rulesRedoesWrong)

/-- 'ripostelaw15.RulesEnd': WHATEVER THE INPUT: true; the input reads as it did. -/
def rulesEndSpec : ChangeSpec := { name := "rulesEnd", fn := fun _ => fun
  | [d1, d2, d3] => { results := [.lit (.bool true)], args := [d1, d2, d3] }
  | _ => none }
def rulesEndRow : OpenClaim := { program := "ytgecccghlgpmjaagreat", sum := "042e9453a465ecf23f945e6e314ae15dfc69a9e93e5a88ce826d79aab6c12342", func := "riposte/ripostelaw15.RulesEnd", spec := "rulesEnd", unfollowed := true, recurses := true, loops := true, apart := false }
def RulesEndSaid : Prop := rulesEndRow.holds Tryz.pinned (OpenSpec.ofChange rulesEndSpec)

/-- ITS FALSE NEIGHBOUR: 'it returns false'. Refute it at one input. -/
def rulesEndWrong : ChangeSpec := { name := "rulesEnd", fn := fun _ => fun
  | [d1, d2, d3] => { results := [.lit (.bool false)], args := [d1, d2, d3] }
  | _ => none }
def RulesEndWrongFalsely : Prop := rulesEndRow.holds Tryz.pinned (OpenSpec.ofChange rulesEndWrong)

/-- 'ripostelaw15.RulesNames': WHATEVER THE INPUT: true; the input reads as it did. -/
def rulesNamesSpec : ChangeSpec := { name := "rulesNames", fn := fun _ => fun
  | [] => { results := [.lit (.bool true)], args := [] }
  | _ => none }
def rulesNamesRow : OpenClaim := { program := "ytgecccghlgpmjaagreat", sum := "042e9453a465ecf23f945e6e314ae15dfc69a9e93e5a88ce826d79aab6c12342", func := "riposte/ripostelaw15.RulesNames", spec := "rulesNames", unfollowed := true, recurses := true, apart := false }
def RulesNamesSaid : Prop := rulesNamesRow.holds Tryz.pinned (OpenSpec.ofChange rulesNamesSpec)

/-- ITS FALSE NEIGHBOUR: 'it returns false'. Refute it at one input. -/
def rulesNamesWrong : ChangeSpec := { name := "rulesNames", fn := fun _ => fun
  | [] => { results := [.lit (.bool false)], args := [] }
  | _ => none }
def RulesNamesWrongFalsely : Prop := rulesNamesRow.holds Tryz.pinned (OpenSpec.ofChange rulesNamesWrong)

/- THE SECOND FORM. 'bulk': how many values and letters a reading holds, each counted each time it is reached (what is shared counts as often as it is met; a slice's spare places count too). A statement '..UptoSaid' is the law's where the arguments, and the package variables that the reading takes, are together of bulk at most 1048576: NARROWER than '..Said'. Prove '..Said' where nothing that the law and all that it calls make is longer than what came in: it says more and counts as full. Else prove '..UptoSaid'. A law counts once. -/
mutual
def uptoBulk {H : Type} : DataW H → Nat
  | .lit (.string bytes) => bytes.length + 1
  | .lit _ => 1
  | .nil => 1
  | .ptr d => uptoBulk d + 1
  | .slice elems spare => uptoBulkAll elems + uptoBulkAll spare + 1
  | .agg parts => uptoBulkAll parts + 1
  | .iface _ d => uptoBulk d + 1
  | .map entries => uptoBulkEntries entries + 1
  | .held _ => 1
def uptoBulkAll {H : Type} : List (DataW H) → Nat
  | [] => 0
  | d :: r => uptoBulk d + uptoBulkAll r
def uptoBulkEntries {H : Type} : List (Lit × DataW H) → Nat
  | [] => 0
  | x :: r => uptoBulkEntry x + uptoBulkEntries r
def uptoBulkEntry {H : Type} : Lit × DataW H → Nat
  | (.string bytes, d) => bytes.length + uptoBulk d + 1
  | (_, d) => uptoBulk d + 1
 end
def uptoSmall : (H : Type) → List (DataW H) → Bool := fun _ ds => decide (uptoBulkAll ds ≤ 1048576)
def OpenSpec.upto (s : _root_.Go.ChangeSpec) : _root_.Go.OpenSpec := { _root_.Go.OpenSpec.ofChange s with cond := some uptoSmall }

/-- 'ripostelaw15.RulesAlls', WHERE WHAT IT READS IS OF BULK AT MOST 1048576: true; the input reads as it did. -/
def rulesAllsUptoRow : OpenClaim := { program := "ytgecccghlgpmjaagreat", sum := "042e9453a465ecf23f945e6e314ae15dfc69a9e93e5a88ce826d79aab6c12342", func := "riposte/ripostelaw15.RulesAlls", spec := "rulesAlls", unfollowed := true, recurses := true, loops := true, apart := false, narrowed := true }
def RulesAllsUptoSaid : Prop := rulesAllsUptoRow.holds Tryz.pinned (OpenSpec.upto rulesAllsSpec)

/-- 'ripostelaw15.RulesOne', WHERE WHAT IT READS IS OF BULK AT MOST 1048576: true; the input reads as it did. -/
def rulesOneUptoRow : OpenClaim := { program := "ytgecccghlgpmjaagreat", sum := "042e9453a465ecf23f945e6e314ae15dfc69a9e93e5a88ce826d79aab6c12342", func := "riposte/ripostelaw15.RulesOne", spec := "rulesOne", unfollowed := true, recurses := true, loops := true, apart := false, narrowed := true }
def RulesOneUptoSaid : Prop := rulesOneUptoRow.holds Tryz.pinned (OpenSpec.upto rulesOneSpec)

/-- 'ripostelaw15.RulesNamed', WHERE WHAT IT READS IS OF BULK AT MOST 1048576: true; the input reads as it did. -/
def rulesNamedUptoRow : OpenClaim := { program := "ytgecccghlgpmjaagreat", sum := "042e9453a465ecf23f945e6e314ae15dfc69a9e93e5a88ce826d79aab6c12342", func := "riposte/ripostelaw15.RulesNamed", spec := "rulesNamed", unfollowed := true, recurses := true, apart := false, narrowed := true }
def RulesNamedUptoSaid : Prop := rulesNamedUptoRow.holds Tryz.pinned (OpenSpec.upto rulesNamedSpec)

/-- 'ripostelaw15.RulesOffers', WHERE WHAT IT READS IS OF BULK AT MOST 1048576: true; the input reads as it did. -/
def rulesOffersUptoRow : OpenClaim := { program := "ytgecccghlgpmjaagreat", sum := "042e9453a465ecf23f945e6e314ae15dfc69a9e93e5a88ce826d79aab6c12342", func := "riposte/ripostelaw15.RulesOffers", spec := "rulesOffers", unfollowed := true, recurses := true, loops := true, apart := false, narrowed := true }
def RulesOffersUptoSaid : Prop := rulesOffersUptoRow.holds Tryz.pinned (OpenSpec.upto rulesOffersSpec)

/-- 'ripostelaw15.RulesRight', WHERE WHAT IT READS IS OF BULK AT MOST 1048576: true; the input reads as it did. -/
def rulesRightUptoRow : OpenClaim := { program := "ytgecccghlgpmjaagreat", sum := "042e9453a465ecf23f945e6e314ae15dfc69a9e93e5a88ce826d79aab6c12342", func := "riposte/ripostelaw15.RulesRight", spec := "rulesRight", unfollowed := true, recurses := true, loops := true, apart := false, narrowed := true }
def RulesRightUptoSaid : Prop := rulesRightUptoRow.holds Tryz.pinned (OpenSpec.upto rulesRightSpec)

/-- 'ripostelaw15.RulesRedoes', WHERE WHAT IT READS IS OF BULK AT MOST 1048576: true; the input reads as it did. -/
def rulesRedoesUptoRow : OpenClaim := { program := "ytgecccghlgpmjaagreat", sum := "042e9453a465ecf23f945e6e314ae15dfc69a9e93e5a88ce826d79aab6c12342", func := "riposte/ripostelaw15.RulesRedoes", spec := "rulesRedoes", unfollowed := true, recurses := true, loops := true, apart := false, narrowed := true }
def RulesRedoesUptoSaid : Prop := rulesRedoesUptoRow.holds Tryz.pinned (OpenSpec.upto rulesRedoesSpec)

/-- 'ripostelaw15.RulesEnd', WHERE WHAT IT READS IS OF BULK AT MOST 1048576: true; the input reads as it did. -/
def rulesEndUptoRow : OpenClaim := { program := "ytgecccghlgpmjaagreat", sum := "042e9453a465ecf23f945e6e314ae15dfc69a9e93e5a88ce826d79aab6c12342", func := "riposte/ripostelaw15.RulesEnd", spec := "rulesEnd", unfollowed := true, recurses := true, loops := true, apart := false, narrowed := true }
def RulesEndUptoSaid : Prop := rulesEndUptoRow.holds Tryz.pinned (OpenSpec.upto rulesEndSpec)

/-- 'ripostelaw15.RulesNames', WHERE WHAT IT READS IS OF BULK AT MOST 1048576: true; the input reads as it did. -/
def rulesNamesUptoRow : OpenClaim := { program := "ytgecccghlgpmjaagreat", sum := "042e9453a465ecf23f945e6e314ae15dfc69a9e93e5a88ce826d79aab6c12342", func := "riposte/ripostelaw15.RulesNames", spec := "rulesNames", unfollowed := true, recurses := true, apart := false, narrowed := true }
def RulesNamesUptoSaid : Prop := rulesNamesUptoRow.holds Tryz.pinned (OpenSpec.upto rulesNamesSpec)

end Rows
end Go.Proofs.YtgecccghlgpmjaaGreat
