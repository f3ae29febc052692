/- The law. Part of a proof of a given statement: for every input the law returns true and the arguments read as before; no condition beyond the given row. -/
import Derived.Test.YtegedmcbfmfjeaaGreatDoorAvOwn
import Derived.Test.YtegedmcbfmfjeaaGreatDoorSeat1
import Derived.KernelRfl
namespace Go.Av
noncomputable section
def gtab0 : List Int := Go.Pinned.utf8FirstZ.map fun (n : Nat) => (n : Int)
theorem Qij : 256 = gtab0.length := by kernel_rfl
theorem Ql0 : Go.Pinned.utf8FirstZ.map (fun (n : Nat) => PV.int .u8 (n : Int)) = (Qv (cI .u8) gtab0).flatten := by kernel_rfl
@[reducible] def cUU (p : Int × Int) : List PV := [.int .u8 p.1, .int .u8 p.2]
def gtab1 : List (Int × Int) := [(128, 191), (160, 191), (128, 159), (144, 191), (128, 143), (0, 0), (0, 0), (0, 0), (0, 0), (0, 0), (0, 0), (0, 0), (0, 0), (0, 0), (0, 0), (0, 0)]
theorem Qha : 16 = gtab1.length := by kernel_rfl
theorem Qlg : [PV.int .u8 128, PV.int .u8 191, PV.int .u8 160, PV.int .u8 191, PV.int .u8 128, PV.int .u8 159, PV.int .u8 144, PV.int .u8 191, PV.int .u8 128, PV.int .u8 143, PV.int .u8 0, PV.int .u8 0, PV.int .u8 0, PV.int .u8 0, PV.int .u8 0, PV.int .u8 0, PV.int .u8 0, PV.int .u8 0, PV.int .u8 0, PV.int .u8 0, PV.int .u8 0, PV.int .u8 0, PV.int .u8 0, PV.int .u8 0, PV.int .u8 0, PV.int .u8 0, PV.int .u8 0, PV.int .u8 0, PV.int .u8 0, PV.int .u8 0, PV.int .u8 0, PV.int .u8 0] = (Qv cUU gtab1).flatten := by kernel_rfl
end
end Go.Av
