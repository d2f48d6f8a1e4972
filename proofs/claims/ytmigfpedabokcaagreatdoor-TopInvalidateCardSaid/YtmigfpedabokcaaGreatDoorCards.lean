/-
  DERIVED. GIVEN WITH THE SEED: THE CARDS: each row of YtmigfpedabokcaaGreatDoorRows.lean that lists a variable, with what it lists TIED to the program's text (the seventh form; the later family's looks); each row that meets fmt, with fmt's text TOLD by the authors' own Lean function (tested against real Go, not proved from fmt's source: count such statements apart). THE CARD IS WHAT COUNTS. Prove the row's statement (the work); the ties are given (YtmigfpedabokcaaGreatDoorTie.lean); close each card by the builder's one call (the guide's Derived/Test/ToyasCard.lean, 'card_holds'). Laid BY PROGRAM, IN A SANDBOX (cutbox-door.mjs). By AI agents, Wed Nov 11 2026. No macro, syntax, notation, axiom, sorry.
-/
import Derived.Test.YtmigfpedabokcaaGreatDoorRows
import GoSem.ClaimSeven
namespace Go.Proofs.YtmigfpedabokcaaGreatDoor
namespace Rows

/-- THE TIED CARD OF 'conciergetop.TopInvalidate'. -/
def topInvalidateCard : Claim7 := { stood := { row := topInvalidateRow, standIns := [], harness := (true, "bfa87ad9746ce138932cd51932c8fee165073fd924e3c81146e6d0523619d17c"), looks := true }, kinds := [], alts := [], laidByText := true, laidKinds := [.data, .data, .data, .data, .sentinel, .sentinel, .pinned], laidTests := true, laidLooks := .later }
def TopInvalidateCardSaid : Prop := Claim7.holds Tryz.pinned (.plain (OpenSpec.ofChange topInvalidateSpec)) topInvalidateCard

/-- THE SECOND FORM's CARD OF 'conciergetop.TopInvalidate'. -/
def topInvalidateUptoCard : Claim7 := { stood := { row := topInvalidateUptoRow, standIns := [], harness := (true, "bfa87ad9746ce138932cd51932c8fee165073fd924e3c81146e6d0523619d17c"), looks := true }, kinds := [], alts := [], laidByText := true, laidKinds := [.data, .data, .data, .data, .sentinel, .sentinel, .pinned], laidTests := true, laidLooks := .later }
def TopInvalidateUptoCardSaid : Prop := Claim7.holds Tryz.pinned (.plain (OpenSpec.upto topInvalidateSpec)) topInvalidateUptoCard
end Rows
end Go.Proofs.YtmigfpedabokcaaGreatDoor
