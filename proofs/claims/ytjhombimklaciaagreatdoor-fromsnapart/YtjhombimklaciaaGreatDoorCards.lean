/-
  DERIVED. GIVEN WITH THE SEED: THE CARDS: each row of YtjhombimklaciaaGreatDoorRows.lean that lists a variable, with what it lists TIED to the program's text (the seventh form; the later family's looks); each row that meets fmt, with fmt's text TOLD by the authors' own Lean function (tested against real Go, not proved from fmt's source: count such statements apart). THE CARD IS WHAT COUNTS. Prove the row's statement (the work); the ties are given (YtjhombimklaciaaGreatDoorTie.lean); close each card by the builder's one call (the guide's Derived/Test/ToyasCard.lean, 'card_holds'). Laid BY PROGRAM, IN A SANDBOX (cutbox-door.mjs). By AI agents, Wed Nov 11 2026. No macro, syntax, notation, axiom, sorry.
-/
import Derived.Test.YtjhombimklaciaaGreatDoorRows
import GoSem.ClaimSeven
namespace Go.Proofs.YtjhombimklaciaaGreatDoor
namespace Rows

/-- THE TIED CARD OF 'polyglotlaw27.FromsnApart'. -/
def fromsnApartCard : Claim7 := { stood := { row := fromsnApartRow, standIns := [], harness := (true, "b3cc2b9fa7ce4e04052e5f763bc08185aa1bb014c6ce625cb0ee69c0086a07f6"), looks := true }, kinds := [], alts := [], laidByText := true, laidKinds := [.data, .pinned], laidTests := true, laidLooks := .later }
def FromsnApartCardSaid : Prop := Claim7.holds Tryz.pinned (.plain (OpenSpec.ofChange fromsnApartSpec)) fromsnApartCard

/-- THE SECOND FORM's CARD OF 'polyglotlaw27.FromsnApart'. -/
def fromsnApartUptoCard : Claim7 := { stood := { row := fromsnApartUptoRow, standIns := [], harness := (true, "b3cc2b9fa7ce4e04052e5f763bc08185aa1bb014c6ce625cb0ee69c0086a07f6"), looks := true }, kinds := [], alts := [], laidByText := true, laidKinds := [.data, .pinned], laidTests := true, laidLooks := .later }
def FromsnApartUptoCardSaid : Prop := Claim7.holds Tryz.pinned (.plain (OpenSpec.upto fromsnApartSpec)) fromsnApartUptoCard
end Rows
end Go.Proofs.YtjhombimklaciaaGreatDoor
