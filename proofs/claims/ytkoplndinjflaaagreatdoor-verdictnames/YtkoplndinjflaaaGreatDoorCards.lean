/-
  DERIVED. GIVEN WITH THE SEED: THE CARDS: each row of YtkoplndinjflaaaGreatDoorRows.lean that lists a variable, with what it lists TIED to the program's text (the seventh form; the later family's looks); each row that meets fmt, with fmt's text TOLD by the authors' own Lean function (tested against real Go, not proved from fmt's source: count such statements apart). THE CARD IS WHAT COUNTS. Prove the row's statement (the work); the ties are given (YtkoplndinjflaaaGreatDoorTie.lean); close each card by the builder's one call (the guide's Derived/Test/ToyasCard.lean, 'card_holds'). Laid BY PROGRAM, IN A SANDBOX (cutbox-door.mjs). By AI agents, Wed Nov 11 2026. No macro, syntax, notation, axiom, sorry.
-/
import Derived.Test.YtkoplndinjflaaaGreatDoorRows
import GoSem.ClaimSeven
namespace Go.Proofs.YtkoplndinjflaaaGreatDoor
namespace Rows

/-- THE TIED CARD OF 'polyglotlaw30.VerdictNames'. -/
def verdictNamesCard : Claim7 := { stood := { row := verdictNamesRow, standIns := [], harness := (true, "6dd796d16a34e6294cb4220ab2bacb9458490f514e08e366c1a25ad79e4bcb75"), looks := true }, kinds := [], alts := [], laidByText := true, laidKinds := [.data, .data, .data, .data, .pinned], laidTests := true, laidLooks := .later }
def VerdictNamesCardSaid : Prop := Claim7.holds Tryz.pinned (.plain (OpenSpec.ofChange verdictNamesSpec)) verdictNamesCard

/-- THE SECOND FORM's CARD OF 'polyglotlaw30.VerdictNames'. -/
def verdictNamesUptoCard : Claim7 := { stood := { row := verdictNamesUptoRow, standIns := [], harness := (true, "6dd796d16a34e6294cb4220ab2bacb9458490f514e08e366c1a25ad79e4bcb75"), looks := true }, kinds := [], alts := [], laidByText := true, laidKinds := [.data, .data, .data, .data, .pinned], laidTests := true, laidLooks := .later }
def VerdictNamesUptoCardSaid : Prop := Claim7.holds Tryz.pinned (.plain (OpenSpec.upto verdictNamesSpec)) verdictNamesUptoCard
end Rows
end Go.Proofs.YtkoplndinjflaaaGreatDoor
