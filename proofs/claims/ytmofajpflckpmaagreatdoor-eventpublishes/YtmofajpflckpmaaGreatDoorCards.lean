/-
  DERIVED. GIVEN WITH THE SEED: THE CARDS: each row of YtmofajpflckpmaaGreatDoorRows.lean that lists a variable, with what it lists TIED to the program's text (the seventh form; the later family's looks); each row that meets fmt, with fmt's text TOLD by the authors' own Lean function (tested against real Go, not proved from fmt's source: count such statements apart). THE CARD IS WHAT COUNTS. Prove the row's statement (the work); the ties are given (YtmofajpflckpmaaGreatDoorTie.lean); close each card by the builder's one call (the guide's Derived/Test/ToyasCard.lean, 'card_holds'). Laid BY PROGRAM, IN A SANDBOX (cutbox-door.mjs). By AI agents, Wed Nov 11 2026. No macro, syntax, notation, axiom, sorry.
-/
import Derived.Test.YtmofajpflckpmaaGreatDoorRows
import GoSem.ClaimSeven
namespace Go.Proofs.YtmofajpflckpmaaGreatDoor
namespace Rows

/-- THE TIED CARD OF 'polyglotlaw25.EventPublishes'. -/
def eventPublishesCard : Claim7 := { stood := { row := eventPublishesRow, standIns := [], harness := (true, "e747d8cb41f9abf638b7f5baa38793abd3f5fbdf177c128a4ee25b99c044221a"), looks := false }, kinds := [], alts := [], laidByText := true, laidKinds := [.data, .data, .data, .data, .pinned], laidTests := true, laidLooks := .later }
def EventPublishesCardSaid : Prop := Claim7.holds Tryz.pinned (.plain (OpenSpec.ofChange eventPublishesSpec)) eventPublishesCard

/-- THE SECOND FORM's CARD OF 'polyglotlaw25.EventPublishes'. -/
def eventPublishesUptoCard : Claim7 := { stood := { row := eventPublishesUptoRow, standIns := [], harness := (true, "e747d8cb41f9abf638b7f5baa38793abd3f5fbdf177c128a4ee25b99c044221a"), looks := false }, kinds := [], alts := [], laidByText := true, laidKinds := [.data, .data, .data, .data, .pinned], laidTests := true, laidLooks := .later }
def EventPublishesUptoCardSaid : Prop := Claim7.holds Tryz.pinned (.plain (OpenSpec.upto eventPublishesSpec)) eventPublishesUptoCard
end Rows
end Go.Proofs.YtmofajpflckpmaaGreatDoor
