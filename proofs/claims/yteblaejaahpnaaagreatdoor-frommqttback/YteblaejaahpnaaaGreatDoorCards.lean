/-
  DERIVED. GIVEN WITH THE SEED: THE CARDS: each row of YteblaejaahpnaaaGreatDoorRows.lean that lists a variable, with what it lists TIED to the program's text (the seventh form; the later family's looks); each row that meets fmt, with fmt's text TOLD by the authors' own Lean function (tested against real Go, not proved from fmt's source: count such statements apart). THE CARD IS WHAT COUNTS. Prove the row's statement (the work); the ties are given (YteblaejaahpnaaaGreatDoorTie.lean); close each card by the builder's one call (the guide's Derived/Test/ToyasCard.lean, 'card_holds'). Laid BY PROGRAM, IN A SANDBOX (cutbox-door.mjs). By AI agents, Wed Nov 11 2026. No macro, syntax, notation, axiom, sorry.
-/
import Derived.Test.YteblaejaahpnaaaGreatDoorRows
import GoSem.ClaimSeven
namespace Go.Proofs.YteblaejaahpnaaaGreatDoor
namespace Rows

/-- THE TIED CARD OF 'polyglotlaw26.FrommqttBack'. -/
def frommqttBackCard : Claim7 := { stood := { row := frommqttBackRow, standIns := [], harness := (true, "4763eb2a5f787a401239e1345d99052dc7ad785df50484a95823284cd57771bc"), looks := false }, kinds := [], alts := [], laidByText := true, laidKinds := [.data, .pinned], laidTests := true, laidLooks := .later }
def FrommqttBackCardSaid : Prop := Claim7.holds Tryz.pinned (.plain (OpenSpec.ofChange frommqttBackSpec)) frommqttBackCard

/-- THE TIED CARD OF 'polyglotlaw26.FrommqttVersions'. -/
def frommqttVersionsCard : Claim7 := { stood := { row := frommqttVersionsRow, standIns := [], harness := (true, "4763eb2a5f787a401239e1345d99052dc7ad785df50484a95823284cd57771bc"), looks := false }, kinds := [], alts := [], laidByText := true, laidKinds := [.data, .pinned], laidTests := true, laidLooks := .later }
def FrommqttVersionsCardSaid : Prop := Claim7.holds Tryz.pinned (.plain (OpenSpec.ofChange frommqttVersionsSpec)) frommqttVersionsCard

/-- THE SECOND FORM's CARD OF 'polyglotlaw26.FrommqttBack'. -/
def frommqttBackUptoCard : Claim7 := { stood := { row := frommqttBackUptoRow, standIns := [], harness := (true, "4763eb2a5f787a401239e1345d99052dc7ad785df50484a95823284cd57771bc"), looks := false }, kinds := [], alts := [], laidByText := true, laidKinds := [.data, .pinned], laidTests := true, laidLooks := .later }
def FrommqttBackUptoCardSaid : Prop := Claim7.holds Tryz.pinned (.plain (OpenSpec.upto frommqttBackSpec)) frommqttBackUptoCard

/-- THE SECOND FORM's CARD OF 'polyglotlaw26.FrommqttVersions'. -/
def frommqttVersionsUptoCard : Claim7 := { stood := { row := frommqttVersionsUptoRow, standIns := [], harness := (true, "4763eb2a5f787a401239e1345d99052dc7ad785df50484a95823284cd57771bc"), looks := false }, kinds := [], alts := [], laidByText := true, laidKinds := [.data, .pinned], laidTests := true, laidLooks := .later }
def FrommqttVersionsUptoCardSaid : Prop := Claim7.holds Tryz.pinned (.plain (OpenSpec.upto frommqttVersionsSpec)) frommqttVersionsUptoCard
end Rows
end Go.Proofs.YteblaejaahpnaaaGreatDoor
