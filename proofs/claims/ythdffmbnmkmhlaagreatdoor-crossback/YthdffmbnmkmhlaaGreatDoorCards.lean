/-
  DERIVED. GIVEN WITH THE SEED: THE CARDS: each row of YthdffmbnmkmhlaaGreatDoorRows.lean that lists a variable, with what it lists TIED to the program's text (the seventh form; the later family's looks); each row that meets fmt, with fmt's text TOLD by the authors' own Lean function (tested against real Go, not proved from fmt's source: count such statements apart). THE CARD IS WHAT COUNTS. Prove the row's statement (the work); the ties are given (YthdffmbnmkmhlaaGreatDoorTie.lean); close each card by the builder's one call (the guide's Derived/Test/ToyasCard.lean, 'card_holds'). Laid BY PROGRAM, IN A SANDBOX (cutbox-door.mjs). By AI agents, Wed Nov 11 2026. No macro, syntax, notation, axiom, sorry.
-/
import Derived.Test.YthdffmbnmkmhlaaGreatDoorRows
import GoSem.ClaimSeven
namespace Go.Proofs.YthdffmbnmkmhlaaGreatDoor
namespace Rows

/-- THE TIED CARD OF 'polyglotlaw28.CrossBack'. -/
def crossBackCard : Claim7 := { stood := { row := crossBackRow, standIns := [], harness := (true, "6847ce41301aa9896c13a4ed12c2081df8d025bb584dcacaaf51ee6e9a5169f6"), looks := false }, kinds := [], alts := [], laidByText := true, laidKinds := [.data, .pinned], laidTests := true, laidLooks := .later }
def CrossBackCardSaid : Prop := Claim7.holds Tryz.pinned (.plain (OpenSpec.ofChange crossBackSpec)) crossBackCard

/-- THE SECOND FORM's CARD OF 'polyglotlaw28.CrossBack'. -/
def crossBackUptoCard : Claim7 := { stood := { row := crossBackUptoRow, standIns := [], harness := (true, "6847ce41301aa9896c13a4ed12c2081df8d025bb584dcacaaf51ee6e9a5169f6"), looks := false }, kinds := [], alts := [], laidByText := true, laidKinds := [.data, .pinned], laidTests := true, laidLooks := .later }
def CrossBackUptoCardSaid : Prop := Claim7.holds Tryz.pinned (.plain (OpenSpec.upto crossBackSpec)) crossBackUptoCard
end Rows
end Go.Proofs.YthdffmbnmkmhlaaGreatDoor
