/-
  NARROWER THAN 'FOR EVERY INPUT', by the rows' own cells (each row's printed sentence says how): AmqcanonArrays: loops, laid · AmqcanonBack: loops, laid · AmqframeParts: loops, laid · AmqcanonLeast: loops, laid · AmqcanonCalls: loops, laid · AmqframeNames: laid · AmqframeCalls: loops, laid · AmqframeBack: loops, laid · AmqframeReads: laid.
  DERIVED. THE GIVEN ROWS OF THIS SEAT. 9 by the template 'for every input the law returns true; each argument reads behind the call as it read before'; 0 by the template 'total and deterministic' (their statements: YtkemhhfbpniioaaGreatDoorTotals.lean).
  GIVEN WITH THE SEED: the statements are not yours to turn. If you find one false, say at which input.
  Laid BY PROGRAM, IN A SANDBOX (cutbox-rows.mjs): the forced cells as the released guide's own fill.sh prints them over the translation ed65de196380eadb… (all of the seat's roots in one cut). By AI agents, Wed Nov 11 2026. No macro, syntax, notation, axiom, sorry.
-/
import Derived.Test.YtkemhhfbpniioaaGreatDoorChecked
import GoSem.PinnedTables
import GoSem.Claim
import GoSem.ClaimJoined
import GoSem.ClaimMapViews
import Derived.JoinedTies
import Derived.KernelRfl
namespace Go.Proofs.YtkemhhfbpniioaaGreatDoor
/- THE CELL 'sum', in the pinned program and in every row, IS THE sha256 OF THE DUMP (.gsa) THAT YtkemhhfbpniioaaGreatDoorProg.lean LOADS. Nothing in Lean hashes anything: it is a label: what it is worth is what the hold of that sum in a sandbox is worth. -/
noncomputable def Tryz.pinned : Pinned := { name := "ytkemhhfbpniioaagreatdoor", sum := "ed65de196380eadb8897211d46c628201b924746733ede801c33dbd7824d73a8", checked := Tryz.checked }
namespace Rows
def none {H : Type} : Left H := { results := [], args := [] }

/- WHAT THE LISTED PACKAGE-LEVEL VARIABLES READ AS WHEN THE CALL BEGINS. Each datum BY PROGRAM (the guide's laid-datum.mjs) off the statement by which the dump's own 'gosem.cut.vars' lays the variable. In a bare row this is a premise. The card (YtkemhhfbpniioaaGreatDoorCards.lean) ties it to the program's text. -/
def laid_unicode_utf8_acceptRanges {H : Type} : DataW H := .agg [.agg [.lit (.int .u8 128), .lit (.int .u8 191)], .agg [.lit (.int .u8 160), .lit (.int .u8 191)], .agg [.lit (.int .u8 128), .lit (.int .u8 159)], .agg [.lit (.int .u8 144), .lit (.int .u8 191)], .agg [.lit (.int .u8 128), .lit (.int .u8 143)], .agg [.lit (.int .u8 0), .lit (.int .u8 0)], .agg [.lit (.int .u8 0), .lit (.int .u8 0)], .agg [.lit (.int .u8 0), .lit (.int .u8 0)], .agg [.lit (.int .u8 0), .lit (.int .u8 0)], .agg [.lit (.int .u8 0), .lit (.int .u8 0)], .agg [.lit (.int .u8 0), .lit (.int .u8 0)], .agg [.lit (.int .u8 0), .lit (.int .u8 0)], .agg [.lit (.int .u8 0), .lit (.int .u8 0)], .agg [.lit (.int .u8 0), .lit (.int .u8 0)], .agg [.lit (.int .u8 0), .lit (.int .u8 0)], .agg [.lit (.int .u8 0), .lit (.int .u8 0)]]
/-- One of Go's own tables, pinned by name: the form's constant. -/
def laid_unicode_utf8_first : DataW Unit := Go.Pinned.utf8First

/-- 'polyglotlaw18.AmqcanonArrays': WHATEVER THE INPUT: true; the input reads as it did. -/
def amqcanonArraysSpec : ChangeSpec := { name := "amqcanonArrays", fn := fun _ => fun
  | [d] => { results := [.lit (.bool true)], args := [d] }
  | _ => none }
def amqcanonArraysRow : OpenClaim := { program := "ytkemhhfbpniioaagreatdoor", sum := "ed65de196380eadb8897211d46c628201b924746733ede801c33dbd7824d73a8", func := "polyglot/polyglotlaw18.AmqcanonArrays", spec := "amqcanonArrays", unfollowed := true, recurses := true, named := ["unicode/utf8.first", "unicode/utf8.acceptRanges"], loops := true, apart := false, laid := [("unicode/utf8.acceptRanges", laid_unicode_utf8_acceptRanges), ("unicode/utf8.first", laid_unicode_utf8_first)] }
def AmqcanonArraysSaid : Prop := amqcanonArraysRow.holds Tryz.pinned (OpenSpec.ofChange amqcanonArraysSpec)

/-- ITS FALSE NEIGHBOUR: 'it returns false'. Refute it at one input. -/
def amqcanonArraysWrong : ChangeSpec := { name := "amqcanonArrays", fn := fun _ => fun
  | [d] => { results := [.lit (.bool false)], args := [d] }
  | _ => none }
def AmqcanonArraysWrongFalsely : Prop := amqcanonArraysRow.holds Tryz.pinned (OpenSpec.ofChange amqcanonArraysWrong)

/-- 'polyglotlaw18.AmqcanonBack': WHATEVER THE INPUT: true; the input reads as it did. -/
def amqcanonBackSpec : ChangeSpec := { name := "amqcanonBack", fn := fun _ => fun
  | [d1, d2] => { results := [.lit (.bool true)], args := [d1, d2] }
  | _ => none }
def amqcanonBackRow : OpenClaim := { program := "ytkemhhfbpniioaagreatdoor", sum := "ed65de196380eadb8897211d46c628201b924746733ede801c33dbd7824d73a8", func := "polyglot/polyglotlaw18.AmqcanonBack", spec := "amqcanonBack", unfollowed := true, recurses := true, named := ["unicode/utf8.first", "unicode/utf8.acceptRanges"], loops := true, apart := false, laid := [("unicode/utf8.acceptRanges", laid_unicode_utf8_acceptRanges), ("unicode/utf8.first", laid_unicode_utf8_first)] }
def AmqcanonBackSaid : Prop := amqcanonBackRow.holds Tryz.pinned (OpenSpec.ofChange amqcanonBackSpec)

/-- ITS FALSE NEIGHBOUR: 'it returns false'. Refute it at one input. -/
def amqcanonBackWrong : ChangeSpec := { name := "amqcanonBack", fn := fun _ => fun
  | [d1, d2] => { results := [.lit (.bool false)], args := [d1, d2] }
  | _ => none }
def AmqcanonBackWrongFalsely : Prop := amqcanonBackRow.holds Tryz.pinned (OpenSpec.ofChange amqcanonBackWrong)

/-- 'polyglotlaw19.AmqframeParts': WHATEVER THE INPUT: true; the input reads as it did. -/
def amqframePartsSpec : ChangeSpec := { name := "amqframeParts", fn := fun _ => fun
  | [d1, d2] => { results := [.lit (.bool true)], args := [d1, d2] }
  | _ => none }
def amqframePartsRow : OpenClaim := { program := "ytkemhhfbpniioaagreatdoor", sum := "ed65de196380eadb8897211d46c628201b924746733ede801c33dbd7824d73a8", func := "polyglot/polyglotlaw19.AmqframeParts", spec := "amqframeParts", unfollowed := true, recurses := true, named := ["unicode/utf8.first", "unicode/utf8.acceptRanges"], loops := true, apart := false, laid := [("unicode/utf8.acceptRanges", laid_unicode_utf8_acceptRanges), ("unicode/utf8.first", laid_unicode_utf8_first)] }
def AmqframePartsSaid : Prop := amqframePartsRow.holds Tryz.pinned (OpenSpec.ofChange amqframePartsSpec)

/-- ITS FALSE NEIGHBOUR: 'it returns false'. Refute it at one input. -/
def amqframePartsWrong : ChangeSpec := { name := "amqframeParts", fn := fun _ => fun
  | [d1, d2] => { results := [.lit (.bool false)], args := [d1, d2] }
  | _ => none }
def AmqframePartsWrongFalsely : Prop := amqframePartsRow.holds Tryz.pinned (OpenSpec.ofChange amqframePartsWrong)

/-- 'polyglotlaw18.AmqcanonLeast': WHATEVER THE INPUT: true; the input reads as it did. -/
def amqcanonLeastSpec : ChangeSpec := { name := "amqcanonLeast", fn := fun _ => fun
  | [d1, d2] => { results := [.lit (.bool true)], args := [d1, d2] }
  | _ => none }
def amqcanonLeastRow : OpenClaim := { program := "ytkemhhfbpniioaagreatdoor", sum := "ed65de196380eadb8897211d46c628201b924746733ede801c33dbd7824d73a8", func := "polyglot/polyglotlaw18.AmqcanonLeast", spec := "amqcanonLeast", unfollowed := true, recurses := true, named := ["unicode/utf8.first", "unicode/utf8.acceptRanges"], loops := true, apart := false, laid := [("unicode/utf8.acceptRanges", laid_unicode_utf8_acceptRanges), ("unicode/utf8.first", laid_unicode_utf8_first)] }
def AmqcanonLeastSaid : Prop := amqcanonLeastRow.holds Tryz.pinned (OpenSpec.ofChange amqcanonLeastSpec)

/-- ITS FALSE NEIGHBOUR: 'it returns false'. Refute it at one input. -/
def amqcanonLeastWrong : ChangeSpec := { name := "amqcanonLeast", fn := fun _ => fun
  | [d1, d2] => { results := [.lit (.bool false)], args := [d1, d2] }
  | _ => none }
def AmqcanonLeastWrongFalsely : Prop := amqcanonLeastRow.holds Tryz.pinned (OpenSpec.ofChange amqcanonLeastWrong)

/-- 'polyglotlaw18.AmqcanonCalls': WHATEVER THE INPUT: true; the input reads as it did. -/
def amqcanonCallsSpec : ChangeSpec := { name := "amqcanonCalls", fn := fun _ => fun
  | [d1, d2, d3] => { results := [.lit (.bool true)], args := [d1, d2, d3] }
  | _ => none }
def amqcanonCallsRow : OpenClaim := { program := "ytkemhhfbpniioaagreatdoor", sum := "ed65de196380eadb8897211d46c628201b924746733ede801c33dbd7824d73a8", func := "polyglot/polyglotlaw18.AmqcanonCalls", spec := "amqcanonCalls", unfollowed := true, recurses := true, named := ["unicode/utf8.first", "unicode/utf8.acceptRanges"], loops := true, apart := false, laid := [("unicode/utf8.acceptRanges", laid_unicode_utf8_acceptRanges), ("unicode/utf8.first", laid_unicode_utf8_first)] }
def AmqcanonCallsSaid : Prop := amqcanonCallsRow.holds Tryz.pinned (OpenSpec.ofChange amqcanonCallsSpec)

/-- ITS FALSE NEIGHBOUR: 'it returns false'. Refute it at one input. -/
def amqcanonCallsWrong : ChangeSpec := { name := "amqcanonCalls", fn := fun _ => fun
  | [d1, d2, d3] => { results := [.lit (.bool false)], args := [d1, d2, d3] }
  | _ => none }
def AmqcanonCallsWrongFalsely : Prop := amqcanonCallsRow.holds Tryz.pinned (OpenSpec.ofChange amqcanonCallsWrong)

/-- 'polyglotlaw19.AmqframeNames': WHATEVER THE INPUT: true; the input reads as it did. -/
def amqframeNamesSpec : ChangeSpec := { name := "amqframeNames", fn := fun _ => fun
  | [] => { results := [.lit (.bool true)], args := [] }
  | _ => none }
def amqframeNamesRow : OpenClaim := { program := "ytkemhhfbpniioaagreatdoor", sum := "ed65de196380eadb8897211d46c628201b924746733ede801c33dbd7824d73a8", func := "polyglot/polyglotlaw19.AmqframeNames", spec := "amqframeNames", unfollowed := true, recurses := true, named := ["unicode/utf8.first", "unicode/utf8.acceptRanges"], apart := false, laid := [("unicode/utf8.acceptRanges", laid_unicode_utf8_acceptRanges), ("unicode/utf8.first", laid_unicode_utf8_first)] }
def AmqframeNamesSaid : Prop := amqframeNamesRow.holds Tryz.pinned (OpenSpec.ofChange amqframeNamesSpec)

/-- ITS FALSE NEIGHBOUR: 'it returns false'. Refute it at one input. -/
def amqframeNamesWrong : ChangeSpec := { name := "amqframeNames", fn := fun _ => fun
  | [] => { results := [.lit (.bool false)], args := [] }
  | _ => none }
def AmqframeNamesWrongFalsely : Prop := amqframeNamesRow.holds Tryz.pinned (OpenSpec.ofChange amqframeNamesWrong)

/-- 'polyglotlaw19.AmqframeCalls': WHATEVER THE INPUT: true; the input reads as it did. -/
def amqframeCallsSpec : ChangeSpec := { name := "amqframeCalls", fn := fun _ => fun
  | [d1, d2, d3, d4] => { results := [.lit (.bool true)], args := [d1, d2, d3, d4] }
  | _ => none }
def amqframeCallsRow : OpenClaim := { program := "ytkemhhfbpniioaagreatdoor", sum := "ed65de196380eadb8897211d46c628201b924746733ede801c33dbd7824d73a8", func := "polyglot/polyglotlaw19.AmqframeCalls", spec := "amqframeCalls", unfollowed := true, recurses := true, named := ["unicode/utf8.first", "unicode/utf8.acceptRanges"], loops := true, apart := false, laid := [("unicode/utf8.acceptRanges", laid_unicode_utf8_acceptRanges), ("unicode/utf8.first", laid_unicode_utf8_first)] }
def AmqframeCallsSaid : Prop := amqframeCallsRow.holds Tryz.pinned (OpenSpec.ofChange amqframeCallsSpec)

/-- ITS FALSE NEIGHBOUR: 'it returns false'. Refute it at one input. -/
def amqframeCallsWrong : ChangeSpec := { name := "amqframeCalls", fn := fun _ => fun
  | [d1, d2, d3, d4] => { results := [.lit (.bool false)], args := [d1, d2, d3, d4] }
  | _ => none }
def AmqframeCallsWrongFalsely : Prop := amqframeCallsRow.holds Tryz.pinned (OpenSpec.ofChange amqframeCallsWrong)

/-- 'polyglotlaw19.AmqframeBack': WHATEVER THE INPUT: true; the input reads as it did. -/
def amqframeBackSpec : ChangeSpec := { name := "amqframeBack", fn := fun _ => fun
  | [d1, d2, d3, d4] => { results := [.lit (.bool true)], args := [d1, d2, d3, d4] }
  | _ => none }
def amqframeBackRow : OpenClaim := { program := "ytkemhhfbpniioaagreatdoor", sum := "ed65de196380eadb8897211d46c628201b924746733ede801c33dbd7824d73a8", func := "polyglot/polyglotlaw19.AmqframeBack", spec := "amqframeBack", unfollowed := true, recurses := true, named := ["unicode/utf8.first", "unicode/utf8.acceptRanges"], loops := true, apart := false, laid := [("unicode/utf8.acceptRanges", laid_unicode_utf8_acceptRanges), ("unicode/utf8.first", laid_unicode_utf8_first)] }
def AmqframeBackSaid : Prop := amqframeBackRow.holds Tryz.pinned (OpenSpec.ofChange amqframeBackSpec)

/-- ITS FALSE NEIGHBOUR: 'it returns false'. Refute it at one input. -/
def amqframeBackWrong : ChangeSpec := { name := "amqframeBack", fn := fun _ => fun
  | [d1, d2, d3, d4] => { results := [.lit (.bool false)], args := [d1, d2, d3, d4] }
  | _ => none }
def AmqframeBackWrongFalsely : Prop := amqframeBackRow.holds Tryz.pinned (OpenSpec.ofChange amqframeBackWrong)

/-- 'polyglotlaw19.AmqframeReads': WHATEVER THE INPUT: true; the input reads as it did. -/
def amqframeReadsSpec : ChangeSpec := { name := "amqframeReads", fn := fun _ => fun
  | [d1, d2] => { results := [.lit (.bool true)], args := [d1, d2] }
  | _ => none }
def amqframeReadsRow : OpenClaim := { program := "ytkemhhfbpniioaagreatdoor", sum := "ed65de196380eadb8897211d46c628201b924746733ede801c33dbd7824d73a8", func := "polyglot/polyglotlaw19.AmqframeReads", spec := "amqframeReads", unfollowed := true, recurses := true, named := ["unicode/utf8.first", "unicode/utf8.acceptRanges"], apart := false, laid := [("unicode/utf8.acceptRanges", laid_unicode_utf8_acceptRanges), ("unicode/utf8.first", laid_unicode_utf8_first)] }
def AmqframeReadsSaid : Prop := amqframeReadsRow.holds Tryz.pinned (OpenSpec.ofChange amqframeReadsSpec)

/-- ITS FALSE NEIGHBOUR: 'it returns false'. Refute it at one input. -/
def amqframeReadsWrong : ChangeSpec := { name := "amqframeReads", fn := fun _ => fun
  | [d1, d2] => { results := [.lit (.bool false)], args := [d1, d2] }
  | _ => none }
def AmqframeReadsWrongFalsely : Prop := amqframeReadsRow.holds Tryz.pinned (OpenSpec.ofChange amqframeReadsWrong)

/- THE SECOND FORM. 'bulk': how many values and letters a reading holds, each counted each time it is reached (what is shared counts as often as it is met; a slice's spare places count too). A statement '..UptoSaid' is the law's where the arguments, and the package variables that the reading takes, are together of bulk at most 1048576: NARROWER than '..Said'. Prove '..Said' where nothing that the law and all that it calls make is longer than what came in: it says more and counts as full. Else prove '..UptoSaid'. A law counts once. -/
mutual
def uptoBulk {H : Type} : DataW H → Nat
  | .lit (.string bytes) => bytes.length + 1
  | .lit _ => 1
  | .nil => 1
  | .ptr d => uptoBulk d + 1
  | .slice elems spare => uptoBulkAll elems + uptoBulkAll spare + 1
  | .agg parts => uptoBulkAll parts + 1
  | .iface _ d => uptoBulk d + 1
  | .map entries => uptoBulkEntries entries + 1
  | .held _ => 1
def uptoBulkAll {H : Type} : List (DataW H) → Nat
  | [] => 0
  | d :: r => uptoBulk d + uptoBulkAll r
def uptoBulkEntries {H : Type} : List (Lit × DataW H) → Nat
  | [] => 0
  | x :: r => uptoBulkEntry x + uptoBulkEntries r
def uptoBulkEntry {H : Type} : Lit × DataW H → Nat
  | (.string bytes, d) => bytes.length + uptoBulk d + 1
  | (_, d) => uptoBulk d + 1
 end
def uptoSmall : (H : Type) → List (DataW H) → Bool := fun _ ds => decide (uptoBulkAll ds ≤ 1048576)
def OpenSpec.upto (s : _root_.Go.ChangeSpec) : _root_.Go.OpenSpec := { _root_.Go.OpenSpec.ofChange s with cond := some uptoSmall }

/-- 'polyglotlaw18.AmqcanonArrays', WHERE WHAT IT READS IS OF BULK AT MOST 1048576: true; the input reads as it did. -/
def amqcanonArraysUptoRow : OpenClaim := { program := "ytkemhhfbpniioaagreatdoor", sum := "ed65de196380eadb8897211d46c628201b924746733ede801c33dbd7824d73a8", func := "polyglot/polyglotlaw18.AmqcanonArrays", spec := "amqcanonArrays", unfollowed := true, recurses := true, named := ["unicode/utf8.first", "unicode/utf8.acceptRanges"], loops := true, apart := false, laid := [("unicode/utf8.acceptRanges", laid_unicode_utf8_acceptRanges), ("unicode/utf8.first", laid_unicode_utf8_first)], narrowed := true }
def AmqcanonArraysUptoSaid : Prop := amqcanonArraysUptoRow.holds Tryz.pinned (OpenSpec.upto amqcanonArraysSpec)

/-- 'polyglotlaw18.AmqcanonBack', WHERE WHAT IT READS IS OF BULK AT MOST 1048576: true; the input reads as it did. -/
def amqcanonBackUptoRow : OpenClaim := { program := "ytkemhhfbpniioaagreatdoor", sum := "ed65de196380eadb8897211d46c628201b924746733ede801c33dbd7824d73a8", func := "polyglot/polyglotlaw18.AmqcanonBack", spec := "amqcanonBack", unfollowed := true, recurses := true, named := ["unicode/utf8.first", "unicode/utf8.acceptRanges"], loops := true, apart := false, laid := [("unicode/utf8.acceptRanges", laid_unicode_utf8_acceptRanges), ("unicode/utf8.first", laid_unicode_utf8_first)], narrowed := true }
def AmqcanonBackUptoSaid : Prop := amqcanonBackUptoRow.holds Tryz.pinned (OpenSpec.upto amqcanonBackSpec)

/-- 'polyglotlaw19.AmqframeParts', WHERE WHAT IT READS IS OF BULK AT MOST 1048576: true; the input reads as it did. -/
def amqframePartsUptoRow : OpenClaim := { program := "ytkemhhfbpniioaagreatdoor", sum := "ed65de196380eadb8897211d46c628201b924746733ede801c33dbd7824d73a8", func := "polyglot/polyglotlaw19.AmqframeParts", spec := "amqframeParts", unfollowed := true, recurses := true, named := ["unicode/utf8.first", "unicode/utf8.acceptRanges"], loops := true, apart := false, laid := [("unicode/utf8.acceptRanges", laid_unicode_utf8_acceptRanges), ("unicode/utf8.first", laid_unicode_utf8_first)], narrowed := true }
def AmqframePartsUptoSaid : Prop := amqframePartsUptoRow.holds Tryz.pinned (OpenSpec.upto amqframePartsSpec)

/-- 'polyglotlaw18.AmqcanonLeast', WHERE WHAT IT READS IS OF BULK AT MOST 1048576: true; the input reads as it did. -/
def amqcanonLeastUptoRow : OpenClaim := { program := "ytkemhhfbpniioaagreatdoor", sum := "ed65de196380eadb8897211d46c628201b924746733ede801c33dbd7824d73a8", func := "polyglot/polyglotlaw18.AmqcanonLeast", spec := "amqcanonLeast", unfollowed := true, recurses := true, named := ["unicode/utf8.first", "unicode/utf8.acceptRanges"], loops := true, apart := false, laid := [("unicode/utf8.acceptRanges", laid_unicode_utf8_acceptRanges), ("unicode/utf8.first", laid_unicode_utf8_first)], narrowed := true }
def AmqcanonLeastUptoSaid : Prop := amqcanonLeastUptoRow.holds Tryz.pinned (OpenSpec.upto amqcanonLeastSpec)

/-- 'polyglotlaw18.AmqcanonCalls', WHERE WHAT IT READS IS OF BULK AT MOST 1048576: true; the input reads as it did. -/
def amqcanonCallsUptoRow : OpenClaim := { program := "ytkemhhfbpniioaagreatdoor", sum := "ed65de196380eadb8897211d46c628201b924746733ede801c33dbd7824d73a8", func := "polyglot/polyglotlaw18.AmqcanonCalls", spec := "amqcanonCalls", unfollowed := true, recurses := true, named := ["unicode/utf8.first", "unicode/utf8.acceptRanges"], loops := true, apart := false, laid := [("unicode/utf8.acceptRanges", laid_unicode_utf8_acceptRanges), ("unicode/utf8.first", laid_unicode_utf8_first)], narrowed := true }
def AmqcanonCallsUptoSaid : Prop := amqcanonCallsUptoRow.holds Tryz.pinned (OpenSpec.upto amqcanonCallsSpec)

/-- 'polyglotlaw19.AmqframeNames', WHERE WHAT IT READS IS OF BULK AT MOST 1048576: true; the input reads as it did. -/
def amqframeNamesUptoRow : OpenClaim := { program := "ytkemhhfbpniioaagreatdoor", sum := "ed65de196380eadb8897211d46c628201b924746733ede801c33dbd7824d73a8", func := "polyglot/polyglotlaw19.AmqframeNames", spec := "amqframeNames", unfollowed := true, recurses := true, named := ["unicode/utf8.first", "unicode/utf8.acceptRanges"], apart := false, laid := [("unicode/utf8.acceptRanges", laid_unicode_utf8_acceptRanges), ("unicode/utf8.first", laid_unicode_utf8_first)], narrowed := true }
def AmqframeNamesUptoSaid : Prop := amqframeNamesUptoRow.holds Tryz.pinned (OpenSpec.upto amqframeNamesSpec)

/-- 'polyglotlaw19.AmqframeCalls', WHERE WHAT IT READS IS OF BULK AT MOST 1048576: true; the input reads as it did. -/
def amqframeCallsUptoRow : OpenClaim := { program := "ytkemhhfbpniioaagreatdoor", sum := "ed65de196380eadb8897211d46c628201b924746733ede801c33dbd7824d73a8", func := "polyglot/polyglotlaw19.AmqframeCalls", spec := "amqframeCalls", unfollowed := true, recurses := true, named := ["unicode/utf8.first", "unicode/utf8.acceptRanges"], loops := true, apart := false, laid := [("unicode/utf8.acceptRanges", laid_unicode_utf8_acceptRanges), ("unicode/utf8.first", laid_unicode_utf8_first)], narrowed := true }
def AmqframeCallsUptoSaid : Prop := amqframeCallsUptoRow.holds Tryz.pinned (OpenSpec.upto amqframeCallsSpec)

/-- 'polyglotlaw19.AmqframeBack', WHERE WHAT IT READS IS OF BULK AT MOST 1048576: true; the input reads as it did. -/
def amqframeBackUptoRow : OpenClaim := { program := "ytkemhhfbpniioaagreatdoor", sum := "ed65de196380eadb8897211d46c628201b924746733ede801c33dbd7824d73a8", func := "polyglot/polyglotlaw19.AmqframeBack", spec := "amqframeBack", unfollowed := true, recurses := true, named := ["unicode/utf8.first", "unicode/utf8.acceptRanges"], loops := true, apart := false, laid := [("unicode/utf8.acceptRanges", laid_unicode_utf8_acceptRanges), ("unicode/utf8.first", laid_unicode_utf8_first)], narrowed := true }
def AmqframeBackUptoSaid : Prop := amqframeBackUptoRow.holds Tryz.pinned (OpenSpec.upto amqframeBackSpec)

/-- 'polyglotlaw19.AmqframeReads', WHERE WHAT IT READS IS OF BULK AT MOST 1048576: true; the input reads as it did. -/
def amqframeReadsUptoRow : OpenClaim := { program := "ytkemhhfbpniioaagreatdoor", sum := "ed65de196380eadb8897211d46c628201b924746733ede801c33dbd7824d73a8", func := "polyglot/polyglotlaw19.AmqframeReads", spec := "amqframeReads", unfollowed := true, recurses := true, named := ["unicode/utf8.first", "unicode/utf8.acceptRanges"], apart := false, laid := [("unicode/utf8.acceptRanges", laid_unicode_utf8_acceptRanges), ("unicode/utf8.first", laid_unicode_utf8_first)], narrowed := true }
def AmqframeReadsUptoSaid : Prop := amqframeReadsUptoRow.holds Tryz.pinned (OpenSpec.upto amqframeReadsSpec)

end Rows
end Go.Proofs.YtkemhhfbpniioaaGreatDoor
