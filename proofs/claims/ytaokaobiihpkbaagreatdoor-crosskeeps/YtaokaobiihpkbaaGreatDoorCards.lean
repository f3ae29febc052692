/-
  DERIVED. GIVEN WITH THE SEED: THE CARDS: each row of YtaokaobiihpkbaaGreatDoorRows.lean that lists a variable, with what it lists TIED to the program's text (the seventh form; the later family's looks); each row that meets fmt, with fmt's text TOLD by the authors' own Lean function (tested against real Go, not proved from fmt's source: count such statements apart). THE CARD IS WHAT COUNTS. Prove the row's statement (the work); the ties are given (YtaokaobiihpkbaaGreatDoorTie.lean); close each card by the builder's one call (the guide's Derived/Test/ToyasCard.lean, 'card_holds'). Laid BY PROGRAM, IN A SANDBOX (cutbox-door.mjs). By AI agents, Wed Nov 11 2026. No macro, syntax, notation, axiom, sorry.
-/
import Derived.Test.YtaokaobiihpkbaaGreatDoorRows
import GoSem.ClaimSeven
namespace Go.Proofs.YtaokaobiihpkbaaGreatDoor
namespace Rows

/-- THE TIED CARD OF 'polyglotlaw28.CrossTexts'. -/
def crossTextsCard : Claim7 := { stood := { row := crossTextsRow, standIns := [], harness := (true, "a231556b3a907e03882ddc1ac1cad534ee51348b8b86af5beed0d3c7c2c2882a"), looks := true }, kinds := [], alts := [], laidByText := true, laidKinds := [.data, .pinned], laidTests := true, laidLooks := .later }
def CrossTextsCardSaid : Prop := Claim7.holds Tryz.pinned (.plain (OpenSpec.ofChange crossTextsSpec)) crossTextsCard

/-- THE TIED CARD OF 'polyglotlaw28.CrossRound'. -/
def crossRoundCard : Claim7 := { stood := { row := crossRoundRow, standIns := [], harness := (true, "a231556b3a907e03882ddc1ac1cad534ee51348b8b86af5beed0d3c7c2c2882a"), looks := true }, kinds := [], alts := [], laidByText := true, laidKinds := [.data, .pinned], laidTests := true, laidLooks := .later }
def CrossRoundCardSaid : Prop := Claim7.holds Tryz.pinned (.plain (OpenSpec.ofChange crossRoundSpec)) crossRoundCard

/-- THE TIED CARD OF 'polyglotlaw28.CrossKeeps'. -/
def crossKeepsCard : Claim7 := { stood := { row := crossKeepsRow, standIns := [], harness := (true, "a231556b3a907e03882ddc1ac1cad534ee51348b8b86af5beed0d3c7c2c2882a"), looks := true }, kinds := [], alts := [], laidByText := true, laidKinds := [.data, .pinned], laidTests := true, laidLooks := .later }
def CrossKeepsCardSaid : Prop := Claim7.holds Tryz.pinned (.plain (OpenSpec.ofChange crossKeepsSpec)) crossKeepsCard

/-- THE SECOND FORM's CARD OF 'polyglotlaw28.CrossTexts'. -/
def crossTextsUptoCard : Claim7 := { stood := { row := crossTextsUptoRow, standIns := [], harness := (true, "a231556b3a907e03882ddc1ac1cad534ee51348b8b86af5beed0d3c7c2c2882a"), looks := true }, kinds := [], alts := [], laidByText := true, laidKinds := [.data, .pinned], laidTests := true, laidLooks := .later }
def CrossTextsUptoCardSaid : Prop := Claim7.holds Tryz.pinned (.plain (OpenSpec.upto crossTextsSpec)) crossTextsUptoCard

/-- THE SECOND FORM's CARD OF 'polyglotlaw28.CrossRound'. -/
def crossRoundUptoCard : Claim7 := { stood := { row := crossRoundUptoRow, standIns := [], harness := (true, "a231556b3a907e03882ddc1ac1cad534ee51348b8b86af5beed0d3c7c2c2882a"), looks := true }, kinds := [], alts := [], laidByText := true, laidKinds := [.data, .pinned], laidTests := true, laidLooks := .later }
def CrossRoundUptoCardSaid : Prop := Claim7.holds Tryz.pinned (.plain (OpenSpec.upto crossRoundSpec)) crossRoundUptoCard

/-- THE SECOND FORM's CARD OF 'polyglotlaw28.CrossKeeps'. -/
def crossKeepsUptoCard : Claim7 := { stood := { row := crossKeepsUptoRow, standIns := [], harness := (true, "a231556b3a907e03882ddc1ac1cad534ee51348b8b86af5beed0d3c7c2c2882a"), looks := true }, kinds := [], alts := [], laidByText := true, laidKinds := [.data, .pinned], laidTests := true, laidLooks := .later }
def CrossKeepsUptoCardSaid : Prop := Claim7.holds Tryz.pinned (.plain (OpenSpec.upto crossKeepsSpec)) crossKeepsUptoCard
end Rows
end Go.Proofs.YtaokaobiihpkbaaGreatDoor
