/-
  DERIVED. GIVEN WITH THE SEED: THE CARDS: each row of YtkbpbhflndliaaaGreatDoorRows.lean that lists a variable, with what it lists TIED to the program's text (the seventh form; the later family's looks); each row that meets fmt, with fmt's text TOLD by the authors' own Lean function (tested against real Go, not proved from fmt's source: count such statements apart). THE CARD IS WHAT COUNTS. Prove the row's statement (the work); the ties are given (YtkbpbhflndliaaaGreatDoorTie.lean); close each card by the builder's one call (the guide's Derived/Test/ToyasCard.lean, 'card_holds'). Laid BY PROGRAM, IN A SANDBOX (cutbox-door.mjs). By AI agents, Wed Nov 11 2026. No macro, syntax, notation, axiom, sorry.
-/
import Derived.Test.YtkbpbhflndliaaaGreatDoorRows
import GoSem.ClaimSeven
namespace Go.Proofs.YtkbpbhflndliaaaGreatDoor
namespace Rows

/-- THE TIED CARD OF 'conciergetop.TopSearch'. -/
def topSearchCard : Claim7 := { stood := { row := topSearchRow, standIns := [], harness := (true, "3645531574303ab78068265497d979b95dcb18d50c42b8181e71488e886f8031"), looks := true }, kinds := [], alts := [], laidByText := true, laidKinds := [.data, .data, .data, .data, .sentinel, .sentinel, .pinned], laidTests := true, laidLooks := .later }
def TopSearchCardSaid : Prop := Claim7.holds Tryz.pinned (.plain (OpenSpec.ofChange topSearchSpec)) topSearchCard

/-- THE SECOND FORM's CARD OF 'conciergetop.TopSearch'. -/
def topSearchUptoCard : Claim7 := { stood := { row := topSearchUptoRow, standIns := [], harness := (true, "3645531574303ab78068265497d979b95dcb18d50c42b8181e71488e886f8031"), looks := true }, kinds := [], alts := [], laidByText := true, laidKinds := [.data, .data, .data, .data, .sentinel, .sentinel, .pinned], laidTests := true, laidLooks := .later }
def TopSearchUptoCardSaid : Prop := Claim7.holds Tryz.pinned (.plain (OpenSpec.upto topSearchSpec)) topSearchUptoCard
end Rows
end Go.Proofs.YtkbpbhflndliaaaGreatDoor
