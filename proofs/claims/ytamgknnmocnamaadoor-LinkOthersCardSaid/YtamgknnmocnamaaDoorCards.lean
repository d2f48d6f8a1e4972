/-
  DERIVED. GIVEN WITH THE SEED: THE CARDS: each row of YtamgknnmocnamaaDoorRows.lean that lists a variable, with what it lists TIED to the program's text (the seventh form; the later family's looks); each row that meets fmt, with fmt's text TOLD by the authors' own Lean function (tested against real Go, not proved from fmt's source: count such statements apart). THE CARD IS WHAT COUNTS. Prove the row's statement (the work); the ties are given (YtamgknnmocnamaaDoorTie.lean); close each card by the builder's one call (the guide's Derived/Test/ToyasCard.lean, 'card_holds'). Laid BY PROGRAM, IN A SANDBOX (cutbox-door.mjs). By AI agents, Wed Nov 11 2026. No macro, syntax, notation, axiom, sorry.
-/
import Derived.Test.YtamgknnmocnamaaDoorRows
import GoSem.ClaimSeven
namespace Go.Proofs.YtamgknnmocnamaaDoor
namespace Rows

/-- THE TIED CARD OF 'conciergelaw18.BuiltinLook'. -/
def builtinLookCard : Claim7 := { stood := { row := builtinLookRow, standIns := [], harness := (true, "aa27b08c577acecbdbe3192b7d27716d652f3b8434f359c689c3434aa6aeea20"), looks := true }, kinds := [], alts := [], laidByText := true, laidKinds := [.data, .pinned], laidTests := true, laidLooks := .later }
def BuiltinLookCardSaid : Prop := Claim7.holds Tryd.pinned (.plain (OpenSpec.ofChange builtinLookSpec)) builtinLookCard

/-- THE TIED CARD OF 'conciergelaw17.LinkOthers'. -/
def linkOthersCard : Claim7 := { stood := { row := linkOthersRow, standIns := [], harness := (true, "aa27b08c577acecbdbe3192b7d27716d652f3b8434f359c689c3434aa6aeea20"), looks := true }, kinds := [], alts := [], laidByText := true, laidKinds := [.data, .pinned], laidTests := true, laidLooks := .later }
def LinkOthersCardSaid : Prop := Claim7.holds Tryd.pinned (.plain (OpenSpec.ofChange linkOthersSpec)) linkOthersCard

/-- THE SECOND FORM's CARD OF 'conciergelaw18.BuiltinLook'. -/
def builtinLookUptoCard : Claim7 := { stood := { row := builtinLookUptoRow, standIns := [], harness := (true, "aa27b08c577acecbdbe3192b7d27716d652f3b8434f359c689c3434aa6aeea20"), looks := true }, kinds := [], alts := [], laidByText := true, laidKinds := [.data, .pinned], laidTests := true, laidLooks := .later }
def BuiltinLookUptoCardSaid : Prop := Claim7.holds Tryd.pinned (.plain (OpenSpec.upto builtinLookSpec)) builtinLookUptoCard

/-- THE SECOND FORM's CARD OF 'conciergelaw17.LinkOthers'. -/
def linkOthersUptoCard : Claim7 := { stood := { row := linkOthersUptoRow, standIns := [], harness := (true, "aa27b08c577acecbdbe3192b7d27716d652f3b8434f359c689c3434aa6aeea20"), looks := true }, kinds := [], alts := [], laidByText := true, laidKinds := [.data, .pinned], laidTests := true, laidLooks := .later }
def LinkOthersUptoCardSaid : Prop := Claim7.holds Tryd.pinned (.plain (OpenSpec.upto linkOthersSpec)) linkOthersUptoCard
end Rows
end Go.Proofs.YtamgknnmocnamaaDoor
