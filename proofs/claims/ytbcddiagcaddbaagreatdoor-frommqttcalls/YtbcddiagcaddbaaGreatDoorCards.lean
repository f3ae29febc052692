/-
  DERIVED. GIVEN WITH THE SEED: THE CARDS: each row of YtbcddiagcaddbaaGreatDoorRows.lean that lists a variable, with what it lists TIED to the program's text (the seventh form; the later family's looks); each row that meets fmt, with fmt's text TOLD by the authors' own Lean function (tested against real Go, not proved from fmt's source: count such statements apart). THE CARD IS WHAT COUNTS. Prove the row's statement (the work); the ties are given (YtbcddiagcaddbaaGreatDoorTie.lean); close each card by the builder's one call (the guide's Derived/Test/ToyasCard.lean, 'card_holds'). Laid BY PROGRAM, IN A SANDBOX (cutbox-door.mjs). By AI agents, Wed Nov 11 2026. No macro, syntax, notation, axiom, sorry.
-/
import Derived.Test.YtbcddiagcaddbaaGreatDoorRows
import GoSem.ClaimSeven
namespace Go.Proofs.YtbcddiagcaddbaaGreatDoor
namespace Rows

/-- THE TIED CARD OF 'polyglotlaw26.FrommqttCalls'. -/
def frommqttCallsCard : Claim7 := { stood := { row := frommqttCallsRow, standIns := [], harness := (true, "693fcf22349226171f32b1627451ccd11967162850eda9a3d4c75c3ccdc854f2"), looks := false }, kinds := [], alts := [], laidByText := true, laidKinds := [.data, .pinned], laidTests := true, laidLooks := .later }
def FrommqttCallsCardSaid : Prop := Claim7.holds Tryz.pinned (.plain (OpenSpec.ofChange frommqttCallsSpec)) frommqttCallsCard

/-- THE SECOND FORM's CARD OF 'polyglotlaw26.FrommqttCalls'. -/
def frommqttCallsUptoCard : Claim7 := { stood := { row := frommqttCallsUptoRow, standIns := [], harness := (true, "693fcf22349226171f32b1627451ccd11967162850eda9a3d4c75c3ccdc854f2"), looks := false }, kinds := [], alts := [], laidByText := true, laidKinds := [.data, .pinned], laidTests := true, laidLooks := .later }
def FrommqttCallsUptoCardSaid : Prop := Claim7.holds Tryz.pinned (.plain (OpenSpec.upto frommqttCallsSpec)) frommqttCallsUptoCard
end Rows
end Go.Proofs.YtbcddiagcaddbaaGreatDoor
