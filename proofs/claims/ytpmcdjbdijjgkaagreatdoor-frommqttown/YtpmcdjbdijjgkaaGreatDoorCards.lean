/-
  DERIVED. GIVEN WITH THE SEED: THE CARDS: each row of YtpmcdjbdijjgkaaGreatDoorRows.lean that lists a variable, with what it lists TIED to the program's text (the seventh form; the later family's looks); each row that meets fmt, with fmt's text TOLD by the authors' own Lean function (tested against real Go, not proved from fmt's source: count such statements apart). THE CARD IS WHAT COUNTS. Prove the row's statement (the work); the ties are given (YtpmcdjbdijjgkaaGreatDoorTie.lean); close each card by the builder's one call (the guide's Derived/Test/ToyasCard.lean, 'card_holds'). Laid BY PROGRAM, IN A SANDBOX (cutbox-door.mjs). By AI agents, Wed Nov 11 2026. No macro, syntax, notation, axiom, sorry.
-/
import Derived.Test.YtpmcdjbdijjgkaaGreatDoorRows
import GoSem.ClaimSeven
namespace Go.Proofs.YtpmcdjbdijjgkaaGreatDoor
namespace Rows

/-- THE TIED CARD OF 'polyglotlaw26.FrommqttOwn'. -/
def frommqttOwnCard : Claim7 := { stood := { row := frommqttOwnRow, standIns := [], harness := (true, "ced2d7fad0c6187eddbabe282d2aabb88dc83effa85c8b96c8408d12c0dc03fa"), looks := false }, kinds := [], alts := [], laidByText := true, laidKinds := [.data, .pinned], laidTests := true, laidLooks := .later }
def FrommqttOwnCardSaid : Prop := Claim7.holds Tryz.pinned (.plain (OpenSpec.ofChange frommqttOwnSpec)) frommqttOwnCard

/-- THE SECOND FORM's CARD OF 'polyglotlaw26.FrommqttOwn'. -/
def frommqttOwnUptoCard : Claim7 := { stood := { row := frommqttOwnUptoRow, standIns := [], harness := (true, "ced2d7fad0c6187eddbabe282d2aabb88dc83effa85c8b96c8408d12c0dc03fa"), looks := false }, kinds := [], alts := [], laidByText := true, laidKinds := [.data, .pinned], laidTests := true, laidLooks := .later }
def FrommqttOwnUptoCardSaid : Prop := Claim7.holds Tryz.pinned (.plain (OpenSpec.upto frommqttOwnSpec)) frommqttOwnUptoCard
end Rows
end Go.Proofs.YtpmcdjbdijjgkaaGreatDoor
