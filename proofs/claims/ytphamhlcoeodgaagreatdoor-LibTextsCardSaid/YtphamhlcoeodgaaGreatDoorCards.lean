/-
  DERIVED. GIVEN WITH THE SEED: THE CARDS: each row of YtphamhlcoeodgaaGreatDoorRows.lean that lists a variable, with what it lists TIED to the program's text (the seventh form; the later family's looks); each row that meets fmt, with fmt's text TOLD by the authors' own Lean function (tested against real Go, not proved from fmt's source: count such statements apart). THE CARD IS WHAT COUNTS. Prove the row's statement (the work); the ties are given (YtphamhlcoeodgaaGreatDoorTie.lean); close each card by the builder's one call (the guide's Derived/Test/ToyasCard.lean, 'card_holds'). Laid BY PROGRAM, IN A SANDBOX (cutbox-door.mjs). By AI agents, Wed Nov 11 2026. No macro, syntax, notation, axiom, sorry.
-/
import Derived.Test.YtphamhlcoeodgaaGreatDoorRows
import GoSem.ClaimSeven
namespace Go.Proofs.YtphamhlcoeodgaaGreatDoor
namespace Rows

/-- THE TIED CARD OF 'ripostelaw29.LibTexts'. -/
def libTextsCard : Claim7 := { stood := { row := libTextsRow, standIns := [], harness := (true, "c74f92a1541d6a3ad299877576f97c80e966ed6decce0a677d7b44686cec3fdb"), looks := true }, kinds := [], alts := [], laidByText := true, laidKinds := [.data, .data, .data, .data, .sentinel, .sentinel, .listed, .data, .pinned], laidTests := true, laidLooks := .later }
def LibTextsCardSaid : Prop := Claim7.holds Tryz.pinned (.plain (OpenSpec.ofChange libTextsSpec)) libTextsCard

/-- THE SECOND FORM's CARD OF 'ripostelaw29.LibTexts'. -/
def libTextsUptoCard : Claim7 := { stood := { row := libTextsUptoRow, standIns := [], harness := (true, "c74f92a1541d6a3ad299877576f97c80e966ed6decce0a677d7b44686cec3fdb"), looks := true }, kinds := [], alts := [], laidByText := true, laidKinds := [.data, .data, .data, .data, .sentinel, .sentinel, .listed, .data, .pinned], laidTests := true, laidLooks := .later }
def LibTextsUptoCardSaid : Prop := Claim7.holds Tryz.pinned (.plain (OpenSpec.upto libTextsSpec)) libTextsUptoCard
end Rows
end Go.Proofs.YtphamhlcoeodgaaGreatDoor
