/- Part of the proof of CrossNames: for every input the law returns true; no condition. -/
import Derived.Test.YtnbfaogioomghaaGreatDoorAvBridges
import Derived.Test.YtnbfaogioomghaaGreatDoorCards
import Derived.Test.YtnbfaogioomghaaGreatDoorTie
import Derived.KernelRfl
namespace Go.Av
noncomputable section
open Go.Proofs Go.Proofs.YtnbfaogioomghaaGreatDoor
def G1 : Nat → Option (List PV)
 | 1 => some (Go.Pinned.utf8FirstZ.map fun (n : Nat) => .int .u8 (n : Int))
 | 2 => some ([.int .u8 128, .int .u8 191, .int .u8 160, .int .u8 191, .int .u8 128, .int .u8 159, .int .u8 144, .int .u8 191, .int .u8 128, .int .u8 143, .int .u8 0, .int .u8 0, .int .u8 0, .int .u8 0, .int .u8 0, .int .u8 0, .int .u8 0, .int .u8 0, .int .u8 0, .int .u8 0, .int .u8 0, .int .u8 0, .int .u8 0, .int .u8 0, .int .u8 0, .int .u8 0, .int .u8 0, .int .u8 0, .int .u8 0, .int .u8 0, .int .u8 0, .int .u8 0])
 | _ => none
def T1 : List TypeId := [4, 5, 244, 246, 247]
def L1 : List (String × DataW Unit) := [("unicode/utf8.acceptRanges", Rows.laid_unicode_utf8_acceptRanges), ("unicode/utf8.first", Rows.laid_unicode_utf8_first)]
theorem Qf3 : Q19 Tryz.prog T1 = true := by kernel_rfl
theorem Qiz : laidOutB Tryz.prog = true := by kernel_rfl
set_option maxRecDepth 100000 in
theorem Q9t : Q0c Rows.laid_unicode_utf8_first = some (Go.Pinned.utf8FirstZ.map fun (n : Nat) => .int .u8 (n : Int)) := by kernel_rfl
theorem Qj7 (W : World) (h : laidMetH Tryz.prog L1 W) : GlobOK G1 ⟨fun _ => none, fun _ => False⟩ [] W := by
 refine Q76 (laid := L1) Qf3 (fun g cs hg => ?_) h
 match g, hg with
 | 1, hg => cases hg; exact ⟨"unicode/utf8.first", Rows.laid_unicode_utf8_first, 244, .tail _ (.head _), by kernel_rfl, by kernel_rfl, by decide, Q9t⟩
 | 2, hg => cases hg; exact ⟨"unicode/utf8.acceptRanges", Rows.laid_unicode_utf8_acceptRanges, 247, .head _, by kernel_rfl, by kernel_rfl, by decide, by kernel_rfl⟩
 | 0, hg => cases hg
 | n + 3, hg => cases hg
theorem Qwj : ownKnob Tryz.prog.godebug = none := by kernel_rfl
def Qi9 (vs : Array Value) : Obj → Obj
 | .cells _ t frozen => .cells vs t frozen
 | o => o
def Qhx : Array Value := #[.int .u8 128, .int .u8 191, .int .u8 160, .int .u8 191, .int .u8 128, .int .u8 159, .int .u8 144, .int .u8 191, .int .u8 128, .int .u8 143, .int .u8 0, .int .u8 0, .int .u8 0, .int .u8 0, .int .u8 0, .int .u8 0, .int .u8 0, .int .u8 0, .int .u8 0, .int .u8 0, .int .u8 0, .int .u8 0, .int .u8 0, .int .u8 0, .int .u8 0, .int .u8 0, .int .u8 0, .int .u8 0, .int .u8 0, .int .u8 0, .int .u8 0, .int .u8 0]
def Qgz : Array Value := (Go.Pinned.utf8FirstZ.map fun (n : Nat) => Value.int .u8 (n : Int)).toArray
noncomputable def Q2d (os : Os) : World :=
 { World.holding Tryz.prog os ⟨#[], #[], []⟩ with heap := (((World.holding Tryz.prog os ⟨#[], #[], []⟩).heap.modify 1 (Qi9 Qgz)).modify 2 (Qi9 Qhx)) }
end
end Go.Av
