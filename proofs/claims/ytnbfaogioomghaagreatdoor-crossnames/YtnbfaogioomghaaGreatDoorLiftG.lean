/- Part of the proof of CrossNames: for every input the law returns true; no condition. -/
import Derived.Test.YtnbfaogioomghaaGreatDoorAvOwn
import Derived.Test.YtnbfaogioomghaaGreatDoorSeat1
import Derived.KernelRfl
namespace Go.Av
noncomputable section
def gtab0 : List Int := Go.Pinned.utf8FirstZ.map fun (n : Nat) => (n : Int)
theorem Qcg : 256 = gtab0.length := by kernel_rfl
theorem Qdr : Go.Pinned.utf8FirstZ.map (fun (n : Nat) => PV.int .u8 (n : Int)) = (Zc (cI .u8) gtab0).flatten := by kernel_rfl
@[reducible] def cUU (p : Int × Int) : List PV := [.int .u8 p.1, .int .u8 p.2]
def gtab1 : List (Int × Int) := [(128, 191), (160, 191), (128, 159), (144, 191), (128, 143), (0, 0), (0, 0), (0, 0), (0, 0), (0, 0), (0, 0), (0, 0), (0, 0), (0, 0), (0, 0), (0, 0)]
theorem Qca : 16 = gtab1.length := by kernel_rfl
theorem Qd6 : [PV.int .u8 128, PV.int .u8 191, PV.int .u8 160, PV.int .u8 191, PV.int .u8 128, PV.int .u8 159, PV.int .u8 144, PV.int .u8 191, PV.int .u8 128, PV.int .u8 143, PV.int .u8 0, PV.int .u8 0, PV.int .u8 0, PV.int .u8 0, PV.int .u8 0, PV.int .u8 0, PV.int .u8 0, PV.int .u8 0, PV.int .u8 0, PV.int .u8 0, PV.int .u8 0, PV.int .u8 0, PV.int .u8 0, PV.int .u8 0, PV.int .u8 0, PV.int .u8 0, PV.int .u8 0, PV.int .u8 0, PV.int .u8 0, PV.int .u8 0, PV.int .u8 0, PV.int .u8 0] = (Zc cUU gtab1).flatten := by kernel_rfl
end
end Go.Av
