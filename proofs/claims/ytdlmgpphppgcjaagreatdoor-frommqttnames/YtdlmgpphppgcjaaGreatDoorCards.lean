/-
  DERIVED. GIVEN WITH THE SEED: THE CARDS: each row of YtdlmgpphppgcjaaGreatDoorRows.lean that lists a variable, with what it lists TIED to the program's text (the seventh form; the later family's looks); each row that meets fmt, with fmt's text TOLD by the authors' own Lean function (tested against real Go, not proved from fmt's source: count such statements apart). THE CARD IS WHAT COUNTS. Prove the row's statement (the work); the ties are given (YtdlmgpphppgcjaaGreatDoorTie.lean); close each card by the builder's one call (the guide's Derived/Test/ToyasCard.lean, 'card_holds'). Laid BY PROGRAM, IN A SANDBOX (cutbox-door.mjs). By AI agents, Wed Nov 11 2026. No macro, syntax, notation, axiom, sorry.
-/
import Derived.Test.YtdlmgpphppgcjaaGreatDoorRows
import GoSem.ClaimSeven
namespace Go.Proofs.YtdlmgpphppgcjaaGreatDoor
namespace Rows

/-- THE TIED CARD OF 'polyglotlaw26.FrommqttNames'. -/
def frommqttNamesCard : Claim7 := { stood := { row := frommqttNamesRow, standIns := [], harness := (true, "850861dfe090d955b3a6e7b101644fc5b836fe8493260e53c2cb579965e105b4"), looks := false }, kinds := [], alts := [], laidByText := true, laidKinds := [.data, .pinned], laidTests := true, laidLooks := .later }
def FrommqttNamesCardSaid : Prop := Claim7.holds Tryz.pinned (.plain (OpenSpec.ofChange frommqttNamesSpec)) frommqttNamesCard

/-- THE SECOND FORM's CARD OF 'polyglotlaw26.FrommqttNames'. -/
def frommqttNamesUptoCard : Claim7 := { stood := { row := frommqttNamesUptoRow, standIns := [], harness := (true, "850861dfe090d955b3a6e7b101644fc5b836fe8493260e53c2cb579965e105b4"), looks := false }, kinds := [], alts := [], laidByText := true, laidKinds := [.data, .pinned], laidTests := true, laidLooks := .later }
def FrommqttNamesUptoCardSaid : Prop := Claim7.holds Tryz.pinned (.plain (OpenSpec.upto frommqttNamesSpec)) frommqttNamesUptoCard
end Rows
end Go.Proofs.YtdlmgpphppgcjaaGreatDoor
