/-
  DERIVED. GIVEN WITH THE SEED: THE CARDS: each row of YtegedmcbfmfjeaaDoorRows.lean that lists a variable, with what it lists TIED to the program's text (the seventh form; the later family's looks); each row that meets fmt, with fmt's text TOLD by the authors' own Lean function (tested against real Go, not proved from fmt's source: count such statements apart). THE CARD IS WHAT COUNTS. Prove the row's statement (the work); the ties are given (YtegedmcbfmfjeaaDoorTie.lean); close each card by the builder's one call (the guide's Derived/Test/ToyasCard.lean, 'card_holds'). Laid BY PROGRAM, IN A SANDBOX (cutbox-door.mjs). By AI agents, Wed Nov 11 2026. No macro, syntax, notation, axiom, sorry.
-/
import Derived.Test.YtegedmcbfmfjeaaDoorRows
import GoSem.ClaimSeven
namespace Go.Proofs.YtegedmcbfmfjeaaDoor
namespace Rows

/-- THE TIED CARD OF 'polyglotlaw17.AmqvalueParts'. -/
def amqvaluePartsCard : Claim7 := { stood := { row := amqvaluePartsRow, standIns := [], harness := (true, "a31fe1bb9783b2c636920f993e36673537e3d797516ecc80e04c68049771ca41"), looks := false }, kinds := [], alts := [], laidByText := true, laidKinds := [.data, .pinned], laidTests := true, laidLooks := .later }
def AmqvaluePartsCardSaid : Prop := Claim7.holds Tryd.pinned (.plain (OpenSpec.ofChange amqvaluePartsSpec)) amqvaluePartsCard

/-- THE TIED CARD OF 'polyglotlaw20.AmqstreamLong'. -/
def amqstreamLongCard : Claim7 := { stood := { row := amqstreamLongRow, standIns := [], harness := (true, "a31fe1bb9783b2c636920f993e36673537e3d797516ecc80e04c68049771ca41"), looks := false }, kinds := [], alts := [], laidByText := true, laidKinds := [.data, .pinned], laidTests := true, laidLooks := .later }
def AmqstreamLongCardSaid : Prop := Claim7.holds Tryd.pinned (.plain (OpenSpec.ofChange amqstreamLongSpec)) amqstreamLongCard

/-- THE TIED CARD OF 'polyglotlaw20.AmqstreamNames'. -/
def amqstreamNamesCard : Claim7 := { stood := { row := amqstreamNamesRow, standIns := [], harness := (true, "a31fe1bb9783b2c636920f993e36673537e3d797516ecc80e04c68049771ca41"), looks := false }, kinds := [], alts := [], laidByText := true, laidKinds := [.data, .pinned], laidTests := true, laidLooks := .later }
def AmqstreamNamesCardSaid : Prop := Claim7.holds Tryd.pinned (.plain (OpenSpec.ofChange amqstreamNamesSpec)) amqstreamNamesCard

/-- THE TIED CARD OF 'polyglotlaw20.AmqstreamCuts'. -/
def amqstreamCutsCard : Claim7 := { stood := { row := amqstreamCutsRow, standIns := [], harness := (true, "a31fe1bb9783b2c636920f993e36673537e3d797516ecc80e04c68049771ca41"), looks := false }, kinds := [], alts := [], laidByText := true, laidKinds := [.data, .pinned], laidTests := true, laidLooks := .later }
def AmqstreamCutsCardSaid : Prop := Claim7.holds Tryd.pinned (.plain (OpenSpec.ofChange amqstreamCutsSpec)) amqstreamCutsCard

/-- THE SECOND FORM's CARD OF 'polyglotlaw17.AmqvalueParts'. -/
def amqvaluePartsUptoCard : Claim7 := { stood := { row := amqvaluePartsUptoRow, standIns := [], harness := (true, "a31fe1bb9783b2c636920f993e36673537e3d797516ecc80e04c68049771ca41"), looks := false }, kinds := [], alts := [], laidByText := true, laidKinds := [.data, .pinned], laidTests := true, laidLooks := .later }
def AmqvaluePartsUptoCardSaid : Prop := Claim7.holds Tryd.pinned (.plain (OpenSpec.upto amqvaluePartsSpec)) amqvaluePartsUptoCard

/-- THE SECOND FORM's CARD OF 'polyglotlaw20.AmqstreamLong'. -/
def amqstreamLongUptoCard : Claim7 := { stood := { row := amqstreamLongUptoRow, standIns := [], harness := (true, "a31fe1bb9783b2c636920f993e36673537e3d797516ecc80e04c68049771ca41"), looks := false }, kinds := [], alts := [], laidByText := true, laidKinds := [.data, .pinned], laidTests := true, laidLooks := .later }
def AmqstreamLongUptoCardSaid : Prop := Claim7.holds Tryd.pinned (.plain (OpenSpec.upto amqstreamLongSpec)) amqstreamLongUptoCard

/-- THE SECOND FORM's CARD OF 'polyglotlaw20.AmqstreamNames'. -/
def amqstreamNamesUptoCard : Claim7 := { stood := { row := amqstreamNamesUptoRow, standIns := [], harness := (true, "a31fe1bb9783b2c636920f993e36673537e3d797516ecc80e04c68049771ca41"), looks := false }, kinds := [], alts := [], laidByText := true, laidKinds := [.data, .pinned], laidTests := true, laidLooks := .later }
def AmqstreamNamesUptoCardSaid : Prop := Claim7.holds Tryd.pinned (.plain (OpenSpec.upto amqstreamNamesSpec)) amqstreamNamesUptoCard

/-- THE SECOND FORM's CARD OF 'polyglotlaw20.AmqstreamCuts'. -/
def amqstreamCutsUptoCard : Claim7 := { stood := { row := amqstreamCutsUptoRow, standIns := [], harness := (true, "a31fe1bb9783b2c636920f993e36673537e3d797516ecc80e04c68049771ca41"), looks := false }, kinds := [], alts := [], laidByText := true, laidKinds := [.data, .pinned], laidTests := true, laidLooks := .later }
def AmqstreamCutsUptoCardSaid : Prop := Claim7.holds Tryd.pinned (.plain (OpenSpec.upto amqstreamCutsSpec)) amqstreamCutsUptoCard
end Rows
end Go.Proofs.YtegedmcbfmfjeaaDoor
