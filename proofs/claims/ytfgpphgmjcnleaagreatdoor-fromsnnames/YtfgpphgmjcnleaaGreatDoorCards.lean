/-
  DERIVED. GIVEN WITH THE SEED: THE CARDS: each row of YtfgpphgmjcnleaaGreatDoorRows.lean that lists a variable, with what it lists TIED to the program's text (the seventh form; the later family's looks); each row that meets fmt, with fmt's text TOLD by the authors' own Lean function (tested against real Go, not proved from fmt's source: count such statements apart). THE CARD IS WHAT COUNTS. Prove the row's statement (the work); the ties are given (YtfgpphgmjcnleaaGreatDoorTie.lean); close each card by the builder's one call (the guide's Derived/Test/ToyasCard.lean, 'card_holds'). Laid BY PROGRAM, IN A SANDBOX (cutbox-door.mjs). By AI agents, Wed Nov 11 2026. No macro, syntax, notation, axiom, sorry.
-/
import Derived.Test.YtfgpphgmjcnleaaGreatDoorRows
import GoSem.ClaimSeven
namespace Go.Proofs.YtfgpphgmjcnleaaGreatDoor
namespace Rows

/-- THE TIED CARD OF 'polyglotlaw27.FromsnNames'. -/
def fromsnNamesCard : Claim7 := { stood := { row := fromsnNamesRow, standIns := [], harness := (true, "d283e57d78fd3d6ee461f63960f9b8e57bcf08a706cf16b6bea02a303b3a6aec"), looks := true }, kinds := [], alts := [], laidByText := true, laidKinds := [.data, .pinned], laidTests := true, laidLooks := .later }
def FromsnNamesCardSaid : Prop := Claim7.holds Tryz.pinned (.plain (OpenSpec.ofChange fromsnNamesSpec)) fromsnNamesCard

/-- THE SECOND FORM's CARD OF 'polyglotlaw27.FromsnNames'. -/
def fromsnNamesUptoCard : Claim7 := { stood := { row := fromsnNamesUptoRow, standIns := [], harness := (true, "d283e57d78fd3d6ee461f63960f9b8e57bcf08a706cf16b6bea02a303b3a6aec"), looks := true }, kinds := [], alts := [], laidByText := true, laidKinds := [.data, .pinned], laidTests := true, laidLooks := .later }
def FromsnNamesUptoCardSaid : Prop := Claim7.holds Tryz.pinned (.plain (OpenSpec.upto fromsnNamesSpec)) fromsnNamesUptoCard
end Rows
end Go.Proofs.YtfgpphgmjcnleaaGreatDoor
