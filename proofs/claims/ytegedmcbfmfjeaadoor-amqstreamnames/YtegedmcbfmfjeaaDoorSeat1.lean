/- The law. Part of a proof of a given statement: for every input the law returns true and the arguments read as before; no condition beyond the given row. -/
import Derived.Test.YtegedmcbfmfjeaaDoorAvBridges
import Derived.Test.YtegedmcbfmfjeaaDoorCards
import Derived.Test.YtegedmcbfmfjeaaDoorTie
import Derived.KernelRfl
namespace Go.Av
noncomputable section
open Go.Proofs Go.Proofs.YtegedmcbfmfjeaaDoor
def G1 : Nat → Option (List PV)
 | 0 => some (Go.Pinned.utf8FirstZ.map fun (n : Nat) => .int .u8 (n : Int))
 | 1 => some [.int .u8 128, .int .u8 191, .int .u8 160, .int .u8 191, .int .u8 128, .int .u8 159, .int .u8 144, .int .u8 191, .int .u8 128, .int .u8 143, .int .u8 0, .int .u8 0, .int .u8 0, .int .u8 0, .int .u8 0, .int .u8 0, .int .u8 0, .int .u8 0, .int .u8 0, .int .u8 0, .int .u8 0, .int .u8 0, .int .u8 0, .int .u8 0, .int .u8 0, .int .u8 0, .int .u8 0, .int .u8 0, .int .u8 0, .int .u8 0, .int .u8 0, .int .u8 0]
 | _ => none
def T1 : List TypeId := [3, 4, 5, 9, 22, 25, 27, 39, 55, 138, 140, 141]
def L1 : List (String × DataW Unit) := [("unicode/utf8.acceptRanges", Rows.laid_unicode_utf8_acceptRanges), ("unicode/utf8.first", Rows.laid_unicode_utf8_first)]
theorem Qc0 : Q0h Tryd.prog T1 = true := by kernel_rfl
theorem Qfr : laidOutB Tryd.prog = true := by kernel_rfl
set_option maxRecDepth 100000 in
theorem Q8j : Gk Rows.laid_unicode_utf8_first = some (Go.Pinned.utf8FirstZ.map fun (n : Nat) => .int .u8 (n : Int)) := by kernel_rfl
theorem Qfj (W : World) (h : laidMetH Tryd.prog L1 W) : GlobOK G1 ⟨fun _ => none, fun _ => False⟩ [] W := by
 refine Q5f (laid := L1) Qc0 (fun g cs hg => ?_) h
 match g, hg with
 | 0, hg => cases hg; exact ⟨"unicode/utf8.first", Rows.laid_unicode_utf8_first, 138, .tail _ (.head _), by kernel_rfl, by kernel_rfl, by decide, Q8j⟩
 | 1, hg => cases hg; exact ⟨"unicode/utf8.acceptRanges", Rows.laid_unicode_utf8_acceptRanges, 141, .head _, by kernel_rfl, by kernel_rfl, by decide, by kernel_rfl⟩
 | n + 2, hg => cases hg
theorem Qg8 : ownKnob Tryd.prog.godebug = none := by kernel_rfl
def Qex (vs : Array Value) : Obj → Obj
 | .cells _ t frozen => .cells vs t frozen
 | o => o
def Qep : Array Value := (Go.Pinned.utf8FirstZ.map fun (n : Nat) => Value.int .u8 (n : Int)).toArray
def Qe3 : Array Value := #[.int .u8 128, .int .u8 191, .int .u8 160, .int .u8 191, .int .u8 128, .int .u8 159, .int .u8 144, .int .u8 191, .int .u8 128, .int .u8 143, .int .u8 0, .int .u8 0, .int .u8 0, .int .u8 0, .int .u8 0, .int .u8 0, .int .u8 0, .int .u8 0, .int .u8 0, .int .u8 0, .int .u8 0, .int .u8 0, .int .u8 0, .int .u8 0, .int .u8 0, .int .u8 0, .int .u8 0, .int .u8 0, .int .u8 0, .int .u8 0, .int .u8 0, .int .u8 0]
noncomputable def Q21 (os : Os) : World :=
 { World.holding Tryd.prog os ⟨#[], #[], []⟩ with heap := ((World.holding Tryd.prog os ⟨#[], #[], []⟩).heap.modify 0 (Qex Qep)).modify 1 (Qex Qe3) }
end
end Go.Av
