/-
  DERIVED. GIVEN WITH THE SEED: THE CARDS: each row of YtmmjgldaaecnpaaGreatDoorRows.lean that lists a variable, with what it lists TIED to the program's text (the seventh form; the later family's looks); each row that meets fmt, with fmt's text TOLD by the authors' own Lean function (tested against real Go, not proved from fmt's source: count such statements apart). THE CARD IS WHAT COUNTS. Prove the row's statement (the work); the ties are given (YtmmjgldaaecnpaaGreatDoorTie.lean); close each card by the builder's one call (the guide's Derived/Test/ToyasCard.lean, 'card_holds'). Laid BY PROGRAM, IN A SANDBOX (cutbox-door.mjs). By AI agents, Wed Nov 11 2026. No macro, syntax, notation, axiom, sorry.
-/
import Derived.Test.YtmmjgldaaecnpaaGreatDoorRows
import GoSem.ClaimSeven
namespace Go.Proofs.YtmmjgldaaecnpaaGreatDoor
namespace Rows

/-- THE TIED CARD OF 'conciergetop.TopTwoCrashes'. -/
def topTwoCrashesCard : Claim7 := { stood := { row := topTwoCrashesRow, standIns := [], harness := (true, "c13f4bd7e20950c4c82e3c1e938eb32b4f1a9552fc9c22cf558c07202690ae0a"), looks := true }, kinds := [], alts := [], laidByText := true, laidKinds := [.data, .data, .data, .data, .sentinel, .sentinel, .pinned], laidTests := true, laidLooks := .later }
def TopTwoCrashesCardSaid : Prop := Claim7.holds Tryz.pinned (.plain (OpenSpec.ofChange topTwoCrashesSpec)) topTwoCrashesCard

/-- THE SECOND FORM's CARD OF 'conciergetop.TopTwoCrashes'. -/
def topTwoCrashesUptoCard : Claim7 := { stood := { row := topTwoCrashesUptoRow, standIns := [], harness := (true, "c13f4bd7e20950c4c82e3c1e938eb32b4f1a9552fc9c22cf558c07202690ae0a"), looks := true }, kinds := [], alts := [], laidByText := true, laidKinds := [.data, .data, .data, .data, .sentinel, .sentinel, .pinned], laidTests := true, laidLooks := .later }
def TopTwoCrashesUptoCardSaid : Prop := Claim7.holds Tryz.pinned (.plain (OpenSpec.upto topTwoCrashesSpec)) topTwoCrashesUptoCard
end Rows
end Go.Proofs.YtmmjgldaaecnpaaGreatDoor
