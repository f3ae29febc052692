/- Part of the proof of CrossBack: for every input the law returns true; no condition. -/
import Derived.Test.YthdffmbnmkmhlaaGreatDoorAvBridges
import Derived.Test.YthdffmbnmkmhlaaGreatDoorCards
import Derived.Test.YthdffmbnmkmhlaaGreatDoorTie
import Derived.KernelRfl
import Derived.Test.YthdffmbnmkmhlaaGreatDoorAvOwn
namespace Go.Av
noncomputable section
open Go.Proofs Go.Proofs.YthdffmbnmkmhlaaGreatDoor
def G1 : Nat → Option (List PV)
 | 0 => some (Go.Pinned.utf8FirstZ.map fun (n : Nat) => .int .u8 (n : Int))
 | 1 => some ([.int .u8 128, .int .u8 191, .int .u8 160, .int .u8 191, .int .u8 128, .int .u8 159, .int .u8 144, .int .u8 191, .int .u8 128, .int .u8 143, .int .u8 0, .int .u8 0, .int .u8 0, .int .u8 0, .int .u8 0, .int .u8 0, .int .u8 0, .int .u8 0, .int .u8 0, .int .u8 0, .int .u8 0, .int .u8 0, .int .u8 0, .int .u8 0, .int .u8 0, .int .u8 0, .int .u8 0, .int .u8 0, .int .u8 0, .int .u8 0, .int .u8 0, .int .u8 0])
 | _ => none
def T1 : List TypeId := [3, 4, 5, 9, 22, 23, 25, 26, 27, 29, 31, 33, 34, 36, 38, 40, 65, 67, 87, 89, 91, 94, 250, 252, 253]
def L1 : List (String × DataW Unit) := [("unicode/utf8.acceptRanges", Rows.laid_unicode_utf8_acceptRanges), ("unicode/utf8.first", Rows.laid_unicode_utf8_first)]
theorem Qyy : Qcf Tryz.prog T1 = true := by kernel_rfl
theorem Z59 : laidOutB Tryz.prog = true := by kernel_rfl
set_option maxRecDepth 100000 in
theorem Qqi : Q9w Rows.laid_unicode_utf8_first = some (Go.Pinned.utf8FirstZ.map fun (n : Nat) => .int .u8 (n : Int)) := by kernel_rfl
theorem Z5j (W : World) (h : laidMetH Tryz.prog L1 W) : GlobOK G1 ⟨fun _ => none, fun _ => False⟩ [] W := by
 refine Qlu (laid := L1) Qyy (fun g cs hg => ?_) h
 match g, hg with
 | 0, hg => cases hg; exact ⟨"unicode/utf8.first", Rows.laid_unicode_utf8_first, 250, .tail _ (.head _), by kernel_rfl, by kernel_rfl, by decide, Qqi⟩
 | 1, hg => cases hg; exact ⟨"unicode/utf8.acceptRanges", Rows.laid_unicode_utf8_acceptRanges, 253, .head _, by kernel_rfl, by kernel_rfl, by decide, by kernel_rfl⟩
 | n + 2, hg => cases hg
theorem Zn2 : ownKnob Tryz.prog.godebug = none := by kernel_rfl
def Z3r (vs : Array Value) : Obj → Obj
 | .cells _ t frozen => .cells vs t frozen
 | o => o
def Z2x : Array Value := #[.int .u8 128, .int .u8 191, .int .u8 160, .int .u8 191, .int .u8 128, .int .u8 159, .int .u8 144, .int .u8 191, .int .u8 128, .int .u8 143, .int .u8 0, .int .u8 0, .int .u8 0, .int .u8 0, .int .u8 0, .int .u8 0, .int .u8 0, .int .u8 0, .int .u8 0, .int .u8 0, .int .u8 0, .int .u8 0, .int .u8 0, .int .u8 0, .int .u8 0, .int .u8 0, .int .u8 0, .int .u8 0, .int .u8 0, .int .u8 0, .int .u8 0, .int .u8 0]
def Z29 : Array Value := (Go.Pinned.utf8FirstZ.map fun (n : Nat) => Value.int .u8 (n : Int)).toArray
noncomputable def Qf9 (os : Os) : World :=
 { World.holding Tryz.prog os ⟨#[], #[], []⟩ with heap := (((World.holding Tryz.prog os ⟨#[], #[], []⟩).heap.modify 0 (Z3r Z29)).modify 1 (Z3r Z2x)) }
end
end Go.Av
namespace Go.Av
noncomputable section
def gtab0 : List Int := Go.Pinned.utf8FirstZ.map fun (n : Nat) => (n : Int)
theorem Qts : 256 = gtab0.length := by kernel_rfl
theorem Qxk : Go.Pinned.utf8FirstZ.map (fun (n : Nat) => PV.int .u8 (n : Int)) = (Qd (cI .u8) gtab0).flatten := by kernel_rfl
@[reducible] def cUU (p : Int × Int) : List PV := [.int .u8 p.1, .int .u8 p.2]
def gtab1 : List (Int × Int) := [(128, 191), (160, 191), (128, 159), (144, 191), (128, 143), (0, 0), (0, 0), (0, 0), (0, 0), (0, 0), (0, 0), (0, 0), (0, 0), (0, 0), (0, 0), (0, 0)]
theorem Qsm : 16 = gtab1.length := by kernel_rfl
theorem Qxq : [PV.int .u8 128, PV.int .u8 191, PV.int .u8 160, PV.int .u8 191, PV.int .u8 128, PV.int .u8 159, PV.int .u8 144, PV.int .u8 191, PV.int .u8 128, PV.int .u8 143, PV.int .u8 0, PV.int .u8 0, PV.int .u8 0, PV.int .u8 0, PV.int .u8 0, PV.int .u8 0, PV.int .u8 0, PV.int .u8 0, PV.int .u8 0, PV.int .u8 0, PV.int .u8 0, PV.int .u8 0, PV.int .u8 0, PV.int .u8 0, PV.int .u8 0, PV.int .u8 0, PV.int .u8 0, PV.int .u8 0, PV.int .u8 0, PV.int .u8 0, PV.int .u8 0, PV.int .u8 0] = (Qd cUU gtab1).flatten := by kernel_rfl
end
end Go.Av
