/-
  DERIVED. GIVEN WITH THE SEED: THE CARDS: each row of YtkemhhfbpniioaaGreatDoorRows.lean that lists a variable, with what it lists TIED to the program's text (the seventh form; the later family's looks); each row that meets fmt, with fmt's text TOLD by the authors' own Lean function (tested against real Go, not proved from fmt's source: count such statements apart). THE CARD IS WHAT COUNTS. Prove the row's statement (the work); the ties are given (YtkemhhfbpniioaaGreatDoorTie.lean); close each card by the builder's one call (the guide's Derived/Test/ToyasCard.lean, 'card_holds'). Laid BY PROGRAM, IN A SANDBOX (cutbox-door.mjs). By AI agents, Wed Nov 11 2026. No macro, syntax, notation, axiom, sorry.
-/
import Derived.Test.YtkemhhfbpniioaaGreatDoorRows
import GoSem.ClaimSeven
namespace Go.Proofs.YtkemhhfbpniioaaGreatDoor
namespace Rows

/-- THE TIED CARD OF 'polyglotlaw18.AmqcanonArrays'. -/
def amqcanonArraysCard : Claim7 := { stood := { row := amqcanonArraysRow, standIns := [], harness := (true, "3f0c1ed062c18ea92620ea4054957767088d059a6e4276cdc099839c5d3f9302"), looks := false }, kinds := [], alts := [], laidByText := true, laidKinds := [.data, .pinned], laidTests := true, laidLooks := .later }
def AmqcanonArraysCardSaid : Prop := Claim7.holds Tryz.pinned (.plain (OpenSpec.ofChange amqcanonArraysSpec)) amqcanonArraysCard

/-- THE TIED CARD OF 'polyglotlaw18.AmqcanonBack'. -/
def amqcanonBackCard : Claim7 := { stood := { row := amqcanonBackRow, standIns := [], harness := (true, "3f0c1ed062c18ea92620ea4054957767088d059a6e4276cdc099839c5d3f9302"), looks := false }, kinds := [], alts := [], laidByText := true, laidKinds := [.data, .pinned], laidTests := true, laidLooks := .later }
def AmqcanonBackCardSaid : Prop := Claim7.holds Tryz.pinned (.plain (OpenSpec.ofChange amqcanonBackSpec)) amqcanonBackCard

/-- THE TIED CARD OF 'polyglotlaw19.AmqframeParts'. -/
def amqframePartsCard : Claim7 := { stood := { row := amqframePartsRow, standIns := [], harness := (true, "3f0c1ed062c18ea92620ea4054957767088d059a6e4276cdc099839c5d3f9302"), looks := false }, kinds := [], alts := [], laidByText := true, laidKinds := [.data, .pinned], laidTests := true, laidLooks := .later }
def AmqframePartsCardSaid : Prop := Claim7.holds Tryz.pinned (.plain (OpenSpec.ofChange amqframePartsSpec)) amqframePartsCard

/-- THE TIED CARD OF 'polyglotlaw18.AmqcanonLeast'. -/
def amqcanonLeastCard : Claim7 := { stood := { row := amqcanonLeastRow, standIns := [], harness := (true, "3f0c1ed062c18ea92620ea4054957767088d059a6e4276cdc099839c5d3f9302"), looks := false }, kinds := [], alts := [], laidByText := true, laidKinds := [.data, .pinned], laidTests := true, laidLooks := .later }
def AmqcanonLeastCardSaid : Prop := Claim7.holds Tryz.pinned (.plain (OpenSpec.ofChange amqcanonLeastSpec)) amqcanonLeastCard

/-- THE TIED CARD OF 'polyglotlaw18.AmqcanonCalls'. -/
def amqcanonCallsCard : Claim7 := { stood := { row := amqcanonCallsRow, standIns := [], harness := (true, "3f0c1ed062c18ea92620ea4054957767088d059a6e4276cdc099839c5d3f9302"), looks := false }, kinds := [], alts := [], laidByText := true, laidKinds := [.data, .pinned], laidTests := true, laidLooks := .later }
def AmqcanonCallsCardSaid : Prop := Claim7.holds Tryz.pinned (.plain (OpenSpec.ofChange amqcanonCallsSpec)) amqcanonCallsCard

/-- THE TIED CARD OF 'polyglotlaw19.AmqframeNames'. -/
def amqframeNamesCard : Claim7 := { stood := { row := amqframeNamesRow, standIns := [], harness := (true, "3f0c1ed062c18ea92620ea4054957767088d059a6e4276cdc099839c5d3f9302"), looks := false }, kinds := [], alts := [], laidByText := true, laidKinds := [.data, .pinned], laidTests := true, laidLooks := .later }
def AmqframeNamesCardSaid : Prop := Claim7.holds Tryz.pinned (.plain (OpenSpec.ofChange amqframeNamesSpec)) amqframeNamesCard

/-- THE TIED CARD OF 'polyglotlaw19.AmqframeCalls'. -/
def amqframeCallsCard : Claim7 := { stood := { row := amqframeCallsRow, standIns := [], harness := (true, "3f0c1ed062c18ea92620ea4054957767088d059a6e4276cdc099839c5d3f9302"), looks := false }, kinds := [], alts := [], laidByText := true, laidKinds := [.data, .pinned], laidTests := true, laidLooks := .later }
def AmqframeCallsCardSaid : Prop := Claim7.holds Tryz.pinned (.plain (OpenSpec.ofChange amqframeCallsSpec)) amqframeCallsCard

/-- THE TIED CARD OF 'polyglotlaw19.AmqframeBack'. -/
def amqframeBackCard : Claim7 := { stood := { row := amqframeBackRow, standIns := [], harness := (true, "3f0c1ed062c18ea92620ea4054957767088d059a6e4276cdc099839c5d3f9302"), looks := false }, kinds := [], alts := [], laidByText := true, laidKinds := [.data, .pinned], laidTests := true, laidLooks := .later }
def AmqframeBackCardSaid : Prop := Claim7.holds Tryz.pinned (.plain (OpenSpec.ofChange amqframeBackSpec)) amqframeBackCard

/-- THE TIED CARD OF 'polyglotlaw19.AmqframeReads'. -/
def amqframeReadsCard : Claim7 := { stood := { row := amqframeReadsRow, standIns := [], harness := (true, "3f0c1ed062c18ea92620ea4054957767088d059a6e4276cdc099839c5d3f9302"), looks := false }, kinds := [], alts := [], laidByText := true, laidKinds := [.data, .pinned], laidTests := true, laidLooks := .later }
def AmqframeReadsCardSaid : Prop := Claim7.holds Tryz.pinned (.plain (OpenSpec.ofChange amqframeReadsSpec)) amqframeReadsCard

/-- THE SECOND FORM's CARD OF 'polyglotlaw18.AmqcanonArrays'. -/
def amqcanonArraysUptoCard : Claim7 := { stood := { row := amqcanonArraysUptoRow, standIns := [], harness := (true, "3f0c1ed062c18ea92620ea4054957767088d059a6e4276cdc099839c5d3f9302"), looks := false }, kinds := [], alts := [], laidByText := true, laidKinds := [.data, .pinned], laidTests := true, laidLooks := .later }
def AmqcanonArraysUptoCardSaid : Prop := Claim7.holds Tryz.pinned (.plain (OpenSpec.upto amqcanonArraysSpec)) amqcanonArraysUptoCard

/-- THE SECOND FORM's CARD OF 'polyglotlaw18.AmqcanonBack'. -/
def amqcanonBackUptoCard : Claim7 := { stood := { row := amqcanonBackUptoRow, standIns := [], harness := (true, "3f0c1ed062c18ea92620ea4054957767088d059a6e4276cdc099839c5d3f9302"), looks := false }, kinds := [], alts := [], laidByText := true, laidKinds := [.data, .pinned], laidTests := true, laidLooks := .later }
def AmqcanonBackUptoCardSaid : Prop := Claim7.holds Tryz.pinned (.plain (OpenSpec.upto amqcanonBackSpec)) amqcanonBackUptoCard

/-- THE SECOND FORM's CARD OF 'polyglotlaw19.AmqframeParts'. -/
def amqframePartsUptoCard : Claim7 := { stood := { row := amqframePartsUptoRow, standIns := [], harness := (true, "3f0c1ed062c18ea92620ea4054957767088d059a6e4276cdc099839c5d3f9302"), looks := false }, kinds := [], alts := [], laidByText := true, laidKinds := [.data, .pinned], laidTests := true, laidLooks := .later }
def AmqframePartsUptoCardSaid : Prop := Claim7.holds Tryz.pinned (.plain (OpenSpec.upto amqframePartsSpec)) amqframePartsUptoCard

/-- THE SECOND FORM's CARD OF 'polyglotlaw18.AmqcanonLeast'. -/
def amqcanonLeastUptoCard : Claim7 := { stood := { row := amqcanonLeastUptoRow, standIns := [], harness := (true, "3f0c1ed062c18ea92620ea4054957767088d059a6e4276cdc099839c5d3f9302"), looks := false }, kinds := [], alts := [], laidByText := true, laidKinds := [.data, .pinned], laidTests := true, laidLooks := .later }
def AmqcanonLeastUptoCardSaid : Prop := Claim7.holds Tryz.pinned (.plain (OpenSpec.upto amqcanonLeastSpec)) amqcanonLeastUptoCard

/-- THE SECOND FORM's CARD OF 'polyglotlaw18.AmqcanonCalls'. -/
def amqcanonCallsUptoCard : Claim7 := { stood := { row := amqcanonCallsUptoRow, standIns := [], harness := (true, "3f0c1ed062c18ea92620ea4054957767088d059a6e4276cdc099839c5d3f9302"), looks := false }, kinds := [], alts := [], laidByText := true, laidKinds := [.data, .pinned], laidTests := true, laidLooks := .later }
def AmqcanonCallsUptoCardSaid : Prop := Claim7.holds Tryz.pinned (.plain (OpenSpec.upto amqcanonCallsSpec)) amqcanonCallsUptoCard

/-- THE SECOND FORM's CARD OF 'polyglotlaw19.AmqframeNames'. -/
def amqframeNamesUptoCard : Claim7 := { stood := { row := amqframeNamesUptoRow, standIns := [], harness := (true, "3f0c1ed062c18ea92620ea4054957767088d059a6e4276cdc099839c5d3f9302"), looks := false }, kinds := [], alts := [], laidByText := true, laidKinds := [.data, .pinned], laidTests := true, laidLooks := .later }
def AmqframeNamesUptoCardSaid : Prop := Claim7.holds Tryz.pinned (.plain (OpenSpec.upto amqframeNamesSpec)) amqframeNamesUptoCard

/-- THE SECOND FORM's CARD OF 'polyglotlaw19.AmqframeCalls'. -/
def amqframeCallsUptoCard : Claim7 := { stood := { row := amqframeCallsUptoRow, standIns := [], harness := (true, "3f0c1ed062c18ea92620ea4054957767088d059a6e4276cdc099839c5d3f9302"), looks := false }, kinds := [], alts := [], laidByText := true, laidKinds := [.data, .pinned], laidTests := true, laidLooks := .later }
def AmqframeCallsUptoCardSaid : Prop := Claim7.holds Tryz.pinned (.plain (OpenSpec.upto amqframeCallsSpec)) amqframeCallsUptoCard

/-- THE SECOND FORM's CARD OF 'polyglotlaw19.AmqframeBack'. -/
def amqframeBackUptoCard : Claim7 := { stood := { row := amqframeBackUptoRow, standIns := [], harness := (true, "3f0c1ed062c18ea92620ea4054957767088d059a6e4276cdc099839c5d3f9302"), looks := false }, kinds := [], alts := [], laidByText := true, laidKinds := [.data, .pinned], laidTests := true, laidLooks := .later }
def AmqframeBackUptoCardSaid : Prop := Claim7.holds Tryz.pinned (.plain (OpenSpec.upto amqframeBackSpec)) amqframeBackUptoCard

/-- THE SECOND FORM's CARD OF 'polyglotlaw19.AmqframeReads'. -/
def amqframeReadsUptoCard : Claim7 := { stood := { row := amqframeReadsUptoRow, standIns := [], harness := (true, "3f0c1ed062c18ea92620ea4054957767088d059a6e4276cdc099839c5d3f9302"), looks := false }, kinds := [], alts := [], laidByText := true, laidKinds := [.data, .pinned], laidTests := true, laidLooks := .later }
def AmqframeReadsUptoCardSaid : Prop := Claim7.holds Tryz.pinned (.plain (OpenSpec.upto amqframeReadsSpec)) amqframeReadsUptoCard
end Rows
end Go.Proofs.YtkemhhfbpniioaaGreatDoor
