/-
  DERIVED. GIVEN WITH THE SEED: THE CARDS: each row of YthbmcbacbhfnmaaGreatDoorRows.lean that lists a variable, with what it lists TIED to the program's text (the seventh form; the later family's looks); each row that meets fmt, with fmt's text TOLD by the authors' own Lean function (tested against real Go, not proved from fmt's source: count such statements apart). THE CARD IS WHAT COUNTS. Prove the row's statement (the work); the ties are given (YthbmcbacbhfnmaaGreatDoorTie.lean); close each card by the builder's one call (the guide's Derived/Test/ToyasCard.lean, 'card_holds'). Laid BY PROGRAM, IN A SANDBOX (cutbox-door.mjs). By AI agents, Wed Nov 11 2026. No macro, syntax, notation, axiom, sorry.
-/
import Derived.Test.YthbmcbacbhfnmaaGreatDoorRows
import GoSem.ClaimSeven
namespace Go.Proofs.YthbmcbacbhfnmaaGreatDoor
namespace Rows

/-- THE TIED CARD OF 'polyglotlaw27.FromsnBack'. -/
def fromsnBackCard : Claim7 := { stood := { row := fromsnBackRow, standIns := [], harness := (true, "2bb4dd1127c6a631fa4b3394babf5f211820180e8ef4edc8dea095c5e4b3355a"), looks := true }, kinds := [], alts := [], laidByText := true, laidKinds := [.data, .pinned], laidTests := true, laidLooks := .later }
def FromsnBackCardSaid : Prop := Claim7.holds Tryz.pinned (.plain (OpenSpec.ofChange fromsnBackSpec)) fromsnBackCard

/-- THE SECOND FORM's CARD OF 'polyglotlaw27.FromsnBack'. -/
def fromsnBackUptoCard : Claim7 := { stood := { row := fromsnBackUptoRow, standIns := [], harness := (true, "2bb4dd1127c6a631fa4b3394babf5f211820180e8ef4edc8dea095c5e4b3355a"), looks := true }, kinds := [], alts := [], laidByText := true, laidKinds := [.data, .pinned], laidTests := true, laidLooks := .later }
def FromsnBackUptoCardSaid : Prop := Claim7.holds Tryz.pinned (.plain (OpenSpec.upto fromsnBackSpec)) fromsnBackUptoCard
end Rows
end Go.Proofs.YthbmcbacbhfnmaaGreatDoor
