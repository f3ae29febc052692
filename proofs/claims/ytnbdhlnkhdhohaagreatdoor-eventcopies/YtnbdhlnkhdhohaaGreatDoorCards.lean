/-
  DERIVED. GIVEN WITH THE SEED: THE CARDS: each row of YtnbdhlnkhdhohaaGreatDoorRows.lean that lists a variable, with what it lists TIED to the program's text (the seventh form; the later family's looks); each row that meets fmt, with fmt's text TOLD by the authors' own Lean function (tested against real Go, not proved from fmt's source: count such statements apart). THE CARD IS WHAT COUNTS. Prove the row's statement (the work); the ties are given (YtnbdhlnkhdhohaaGreatDoorTie.lean); close each card by the builder's one call (the guide's Derived/Test/ToyasCard.lean, 'card_holds'). Laid BY PROGRAM, IN A SANDBOX (cutbox-door.mjs). By AI agents, Wed Nov 11 2026. No macro, syntax, notation, axiom, sorry.
-/
import Derived.Test.YtnbdhlnkhdhohaaGreatDoorRows
import GoSem.ClaimSeven
namespace Go.Proofs.YtnbdhlnkhdhohaaGreatDoor
namespace Rows

/-- THE TIED CARD OF 'polyglotlaw25.EventCopies'. -/
def eventCopiesCard : Claim7 := { stood := { row := eventCopiesRow, standIns := [], harness := (true, "7c0b017162f48503c005f3f640da5c8230c5fab56cfd5d44a99ba2035b7a747c"), looks := false }, kinds := [], alts := [], laidByText := true, laidKinds := [.data, .data, .data, .data, .pinned], laidTests := true, laidLooks := .later }
def EventCopiesCardSaid : Prop := Claim7.holds Tryz.pinned (.plain (OpenSpec.ofChange eventCopiesSpec)) eventCopiesCard

/-- THE TIED CARD OF 'polyglotlaw25.EventOwn'. -/
def eventOwnCard : Claim7 := { stood := { row := eventOwnRow, standIns := [], harness := (true, "7c0b017162f48503c005f3f640da5c8230c5fab56cfd5d44a99ba2035b7a747c"), looks := false }, kinds := [], alts := [], laidByText := true, laidKinds := [.data, .data, .data, .data, .pinned], laidTests := true, laidLooks := .later }
def EventOwnCardSaid : Prop := Claim7.holds Tryz.pinned (.plain (OpenSpec.ofChange eventOwnSpec)) eventOwnCard

/-- THE SECOND FORM's CARD OF 'polyglotlaw25.EventCopies'. -/
def eventCopiesUptoCard : Claim7 := { stood := { row := eventCopiesUptoRow, standIns := [], harness := (true, "7c0b017162f48503c005f3f640da5c8230c5fab56cfd5d44a99ba2035b7a747c"), looks := false }, kinds := [], alts := [], laidByText := true, laidKinds := [.data, .data, .data, .data, .pinned], laidTests := true, laidLooks := .later }
def EventCopiesUptoCardSaid : Prop := Claim7.holds Tryz.pinned (.plain (OpenSpec.upto eventCopiesSpec)) eventCopiesUptoCard

/-- THE SECOND FORM's CARD OF 'polyglotlaw25.EventOwn'. -/
def eventOwnUptoCard : Claim7 := { stood := { row := eventOwnUptoRow, standIns := [], harness := (true, "7c0b017162f48503c005f3f640da5c8230c5fab56cfd5d44a99ba2035b7a747c"), looks := false }, kinds := [], alts := [], laidByText := true, laidKinds := [.data, .data, .data, .data, .pinned], laidTests := true, laidLooks := .later }
def EventOwnUptoCardSaid : Prop := Claim7.holds Tryz.pinned (.plain (OpenSpec.upto eventOwnSpec)) eventOwnUptoCard
end Rows
end Go.Proofs.YtnbdhlnkhdhohaaGreatDoor
