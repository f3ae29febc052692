/- The law. Part of a proof of a given statement: for every input the law returns true and the arguments read as before; no condition beyond the given row. -/
import Derived.Test.YtegedmcbfmfjeaaGreatDoorAvBridges
import Derived.Test.YtegedmcbfmfjeaaGreatDoorCards
import Derived.Test.YtegedmcbfmfjeaaGreatDoorTie
import Derived.KernelRfl
namespace Go.Av
noncomputable section
open Go.Proofs Go.Proofs.YtegedmcbfmfjeaaGreatDoor
def G1 : Nat → Option (List PV)
 | 0 => some (Go.Pinned.utf8FirstZ.map fun (n : Nat) => .int .u8 (n : Int))
 | 1 => some [.int .u8 128, .int .u8 191, .int .u8 160, .int .u8 191, .int .u8 128, .int .u8 159, .int .u8 144, .int .u8 191, .int .u8 128, .int .u8 143, .int .u8 0, .int .u8 0, .int .u8 0, .int .u8 0, .int .u8 0, .int .u8 0, .int .u8 0, .int .u8 0, .int .u8 0, .int .u8 0, .int .u8 0, .int .u8 0, .int .u8 0, .int .u8 0, .int .u8 0, .int .u8 0, .int .u8 0, .int .u8 0, .int .u8 0, .int .u8 0, .int .u8 0, .int .u8 0]
 | _ => none
def T1 : List TypeId := [3, 4, 5, 9, 22, 23, 26, 29, 31, 39, 57, 59, 146, 148, 149]
def L1 : List (String × DataW Unit) := [("unicode/utf8.acceptRanges", Rows.laid_unicode_utf8_acceptRanges), ("unicode/utf8.first", Rows.laid_unicode_utf8_first)]
theorem Qme : Q5t Tryz.prog T1 = true := by kernel_rfl
theorem Qq8 : laidOutB Tryz.prog = true := by kernel_rfl
set_option maxRecDepth 100000 in
theorem Qgi : Q3y Rows.laid_unicode_utf8_first = some (Go.Pinned.utf8FirstZ.map fun (n : Nat) => .int .u8 (n : Int)) := by kernel_rfl
theorem Qqg (W : World) (h : laidMetH Tryz.prog L1 W) : GlobOK G1 ⟨fun _ => none, fun _ => False⟩ [] W := by
 refine Qcg (laid := L1) Qme (fun g cs hg => ?_) h
 match g, hg with
 | 0, hg => cases hg; exact ⟨"unicode/utf8.first", Rows.laid_unicode_utf8_first, 146, .tail _ (.head _), by kernel_rfl, by kernel_rfl, by decide, Qgi⟩
 | 1, hg => cases hg; exact ⟨"unicode/utf8.acceptRanges", Rows.laid_unicode_utf8_acceptRanges, 149, .head _, by kernel_rfl, by kernel_rfl, by decide, by kernel_rfl⟩
 | n + 2, hg => cases hg
theorem Qsg : ownKnob Tryz.prog.godebug = none := by kernel_rfl
def Qp5 (vs : Array Value) : Obj → Obj
 | .cells _ t frozen => .cells vs t frozen
 | o => o
def Qpv : Array Value := (Go.Pinned.utf8FirstZ.map fun (n : Nat) => Value.int .u8 (n : Int)).toArray
def Qp4 : Array Value := #[.int .u8 128, .int .u8 191, .int .u8 160, .int .u8 191, .int .u8 128, .int .u8 159, .int .u8 144, .int .u8 191, .int .u8 128, .int .u8 143, .int .u8 0, .int .u8 0, .int .u8 0, .int .u8 0, .int .u8 0, .int .u8 0, .int .u8 0, .int .u8 0, .int .u8 0, .int .u8 0, .int .u8 0, .int .u8 0, .int .u8 0, .int .u8 0, .int .u8 0, .int .u8 0, .int .u8 0, .int .u8 0, .int .u8 0, .int .u8 0, .int .u8 0, .int .u8 0]
noncomputable def Q7f (os : Os) : World :=
 { World.holding Tryz.prog os ⟨#[], #[], []⟩ with heap := ((World.holding Tryz.prog os ⟨#[], #[], []⟩).heap.modify 0 (Qp5 Qpv)).modify 1 (Qp5 Qp4) }
end
end Go.Av
