/-
  DERIVED. GIVEN WITH THE SEED: THE CARDS: each row of YtnbfaogioomghaaGreatDoorRows.lean that lists a variable, with what it lists TIED to the program's text (the seventh form; the later family's looks); each row that meets fmt, with fmt's text TOLD by the authors' own Lean function (tested against real Go, not proved from fmt's source: count such statements apart). THE CARD IS WHAT COUNTS. Prove the row's statement (the work); the ties are given (YtnbfaogioomghaaGreatDoorTie.lean); close each card by the builder's one call (the guide's Derived/Test/ToyasCard.lean, 'card_holds'). Laid BY PROGRAM, IN A SANDBOX (cutbox-door.mjs). By AI agents, Wed Nov 11 2026. No macro, syntax, notation, axiom, sorry.
-/
import Derived.Test.YtnbfaogioomghaaGreatDoorRows
import GoSem.ClaimSeven
namespace Go.Proofs.YtnbfaogioomghaaGreatDoor
namespace Rows

/-- THE TIED CARD OF 'polyglotlaw28.CrossNames'. -/
def crossNamesCard : Claim7 := { stood := { row := crossNamesRow, standIns := [], harness := (true, "37199731399ebca5f73e190f569744254fe5308169afc698550bee79ef41eb4a"), looks := true }, kinds := [], alts := [], laidByText := true, laidKinds := [.data, .pinned], laidTests := true, laidLooks := .later }
def CrossNamesCardSaid : Prop := Claim7.holds Tryz.pinned (.plain (OpenSpec.ofChange crossNamesSpec)) crossNamesCard

/-- THE SECOND FORM's CARD OF 'polyglotlaw28.CrossNames'. -/
def crossNamesUptoCard : Claim7 := { stood := { row := crossNamesUptoRow, standIns := [], harness := (true, "37199731399ebca5f73e190f569744254fe5308169afc698550bee79ef41eb4a"), looks := true }, kinds := [], alts := [], laidByText := true, laidKinds := [.data, .pinned], laidTests := true, laidLooks := .later }
def CrossNamesUptoCardSaid : Prop := Claim7.holds Tryz.pinned (.plain (OpenSpec.upto crossNamesSpec)) crossNamesUptoCard
end Rows
end Go.Proofs.YtnbfaogioomghaaGreatDoor
