/-
  DERIVED. GIVEN WITH THE SEED: THE CARDS: each row of YtgkmcegmobfknaaGreatDoorRows.lean that lists a variable, with what it lists TIED to the program's text (the seventh form; the later family's looks); each row that meets fmt, with fmt's text TOLD by the authors' own Lean function (tested against real Go, not proved from fmt's source: count such statements apart). THE CARD IS WHAT COUNTS. Prove the row's statement (the work); the ties are given (YtgkmcegmobfknaaGreatDoorTie.lean); close each card by the builder's one call (the guide's Derived/Test/ToyasCard.lean, 'card_holds'). Laid BY PROGRAM, IN A SANDBOX (cutbox-door.mjs). By AI agents, Wed Nov 11 2026. No macro, syntax, notation, axiom, sorry.
-/
import Derived.Test.YtgkmcegmobfknaaGreatDoorRows
import GoSem.ClaimSeven
namespace Go.Proofs.YtgkmcegmobfknaaGreatDoor
namespace Rows

/-- THE TIED CARD OF 'polyglotlaw27.FromsnLearns'. -/
def fromsnLearnsCard : Claim7 := { stood := { row := fromsnLearnsRow, standIns := [], harness := (true, "bd65669e4c8ee2a9ff39f881593ce1ee3645733fb02b0f6ae61d4645ff859bf0"), looks := true }, kinds := [], alts := [], laidByText := true, laidKinds := [.data, .pinned], laidTests := true, laidLooks := .later }
def FromsnLearnsCardSaid : Prop := Claim7.holds Tryz.pinned (.plain (OpenSpec.ofChange fromsnLearnsSpec)) fromsnLearnsCard

/-- THE SECOND FORM's CARD OF 'polyglotlaw27.FromsnLearns'. -/
def fromsnLearnsUptoCard : Claim7 := { stood := { row := fromsnLearnsUptoRow, standIns := [], harness := (true, "bd65669e4c8ee2a9ff39f881593ce1ee3645733fb02b0f6ae61d4645ff859bf0"), looks := true }, kinds := [], alts := [], laidByText := true, laidKinds := [.data, .pinned], laidTests := true, laidLooks := .later }
def FromsnLearnsUptoCardSaid : Prop := Claim7.holds Tryz.pinned (.plain (OpenSpec.upto fromsnLearnsSpec)) fromsnLearnsUptoCard
end Rows
end Go.Proofs.YtgkmcegmobfknaaGreatDoor
