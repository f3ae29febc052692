/-
  DERIVED. GIVEN WITH THE SEED: THE CARDS: each row of YtegedmcbfmfjeaaGreatDoorRows.lean that lists a variable, with what it lists TIED to the program's text (the seventh form; the later family's looks); each row that meets fmt, with fmt's text TOLD by the authors' own Lean function (tested against real Go, not proved from fmt's source: count such statements apart). THE CARD IS WHAT COUNTS. Prove the row's statement (the work); the ties are given (YtegedmcbfmfjeaaGreatDoorTie.lean); close each card by the builder's one call (the guide's Derived/Test/ToyasCard.lean, 'card_holds'). Laid BY PROGRAM, IN A SANDBOX (cutbox-door.mjs). By AI agents, Wed Nov 11 2026. No macro, syntax, notation, axiom, sorry.
-/
import Derived.Test.YtegedmcbfmfjeaaGreatDoorRows
import GoSem.ClaimSeven
namespace Go.Proofs.YtegedmcbfmfjeaaGreatDoor
namespace Rows

/-- THE TIED CARD OF 'polyglotlaw20.AmqstreamFrames'. -/
def amqstreamFramesCard : Claim7 := { stood := { row := amqstreamFramesRow, standIns := [], harness := (true, "a1b6971a3caf9ae69c603d68d4af6542422578f76bc3c12b93f098da6d30d11d"), looks := false }, kinds := [], alts := [], laidByText := true, laidKinds := [.data, .pinned], laidTests := true, laidLooks := .later }
def AmqstreamFramesCardSaid : Prop := Claim7.holds Tryz.pinned (.plain (OpenSpec.ofChange amqstreamFramesSpec)) amqstreamFramesCard

/-- THE TIED CARD OF 'polyglotlaw20.AmqstreamScript'. -/
def amqstreamScriptCard : Claim7 := { stood := { row := amqstreamScriptRow, standIns := [], harness := (true, "a1b6971a3caf9ae69c603d68d4af6542422578f76bc3c12b93f098da6d30d11d"), looks := false }, kinds := [], alts := [], laidByText := true, laidKinds := [.data, .pinned], laidTests := true, laidLooks := .later }
def AmqstreamScriptCardSaid : Prop := Claim7.holds Tryz.pinned (.plain (OpenSpec.ofChange amqstreamScriptSpec)) amqstreamScriptCard

/-- THE SECOND FORM's CARD OF 'polyglotlaw20.AmqstreamFrames'. -/
def amqstreamFramesUptoCard : Claim7 := { stood := { row := amqstreamFramesUptoRow, standIns := [], harness := (true, "a1b6971a3caf9ae69c603d68d4af6542422578f76bc3c12b93f098da6d30d11d"), looks := false }, kinds := [], alts := [], laidByText := true, laidKinds := [.data, .pinned], laidTests := true, laidLooks := .later }
def AmqstreamFramesUptoCardSaid : Prop := Claim7.holds Tryz.pinned (.plain (OpenSpec.upto amqstreamFramesSpec)) amqstreamFramesUptoCard

/-- THE SECOND FORM's CARD OF 'polyglotlaw20.AmqstreamScript'. -/
def amqstreamScriptUptoCard : Claim7 := { stood := { row := amqstreamScriptUptoRow, standIns := [], harness := (true, "a1b6971a3caf9ae69c603d68d4af6542422578f76bc3c12b93f098da6d30d11d"), looks := false }, kinds := [], alts := [], laidByText := true, laidKinds := [.data, .pinned], laidTests := true, laidLooks := .later }
def AmqstreamScriptUptoCardSaid : Prop := Claim7.holds Tryz.pinned (.plain (OpenSpec.upto amqstreamScriptSpec)) amqstreamScriptUptoCard
end Rows
end Go.Proofs.YtegedmcbfmfjeaaGreatDoor
