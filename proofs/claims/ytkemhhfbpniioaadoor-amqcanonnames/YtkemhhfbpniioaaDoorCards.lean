/-
  DERIVED. GIVEN WITH THE SEED: THE CARDS: each row of YtkemhhfbpniioaaDoorRows.lean that lists a variable, with what it lists TIED to the program's text (the seventh form; the later family's looks); each row that meets fmt, with fmt's text TOLD by the authors' own Lean function (tested against real Go, not proved from fmt's source: count such statements apart). THE CARD IS WHAT COUNTS. Prove the row's statement (the work); the ties are given (YtkemhhfbpniioaaDoorTie.lean); close each card by the builder's one call (the guide's Derived/Test/ToyasCard.lean, 'card_holds'). Laid BY PROGRAM, IN A SANDBOX (cutbox-door.mjs). By AI agents, Wed Nov 11 2026. No macro, syntax, notation, axiom, sorry.
-/
import Derived.Test.YtkemhhfbpniioaaDoorRows
import GoSem.ClaimSeven
namespace Go.Proofs.YtkemhhfbpniioaaDoor
namespace Rows

/-- THE TIED CARD OF 'polyglotlaw18.AmqcanonNames'. -/
def amqcanonNamesCard : Claim7 := { stood := { row := amqcanonNamesRow, standIns := [], harness := (true, "13ae267ca1c041089f5c9371dd887b4d0a2be6d8ace9495a5bcd7d34a2b972b1"), looks := false }, kinds := [], alts := [], laidByText := true, laidKinds := [.data, .pinned], laidTests := true, laidLooks := .later }
def AmqcanonNamesCardSaid : Prop := Claim7.holds Tryd.pinned (.plain (OpenSpec.ofChange amqcanonNamesSpec)) amqcanonNamesCard

/-- THE SECOND FORM's CARD OF 'polyglotlaw18.AmqcanonNames'. -/
def amqcanonNamesUptoCard : Claim7 := { stood := { row := amqcanonNamesUptoRow, standIns := [], harness := (true, "13ae267ca1c041089f5c9371dd887b4d0a2be6d8ace9495a5bcd7d34a2b972b1"), looks := false }, kinds := [], alts := [], laidByText := true, laidKinds := [.data, .pinned], laidTests := true, laidLooks := .later }
def AmqcanonNamesUptoCardSaid : Prop := Claim7.holds Tryd.pinned (.plain (OpenSpec.upto amqcanonNamesSpec)) amqcanonNamesUptoCard
end Rows
end Go.Proofs.YtkemhhfbpniioaaDoor
