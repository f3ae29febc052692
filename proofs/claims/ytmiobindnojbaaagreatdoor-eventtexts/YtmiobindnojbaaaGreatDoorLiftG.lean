/- The law. Part of a proof of a given statement: for every input the law returns true and the arguments read as before; no condition beyond the given row. -/
import Derived.Test.YtmiobindnojbaaaGreatDoorAvOwn
import Derived.Test.YtmiobindnojbaaaGreatDoorSeat1
import Derived.KernelRfl
namespace Go.Av
noncomputable section
@[reducible] def cUU (p : Int × Int) : List PV := [.int .u8 p.1, .int .u8 p.2]
def Qo5 : List (Int × Int) := [(128, 191), (160, 191), (128, 159), (144, 191), (128, 143), (0, 0), (0, 0), (0, 0), (0, 0), (0, 0), (0, 0), (0, 0), (0, 0), (0, 0), (0, 0), (0, 0)]
def gtabP : List Int := [1, 10, 100, 1000, 10000, 100000, 1000000, 10000000, 100000000, 1000000000, 10000000000, 100000000000, 1000000000000, 10000000000000, 100000000000000, 1000000000000000, 10000000000000000, 100000000000000000, 1000000000000000000, 10000000000000000000]
theorem Qe4 : 20 = gtabP.length := by kernel_rfl
theorem Qfm : [PV.int .u64 1, PV.int .u64 10, PV.int .u64 100, PV.int .u64 1000, PV.int .u64 10000, PV.int .u64 100000, PV.int .u64 1000000, PV.int .u64 10000000, PV.int .u64 100000000, PV.int .u64 1000000000, PV.int .u64 10000000000, PV.int .u64 100000000000, PV.int .u64 1000000000000, PV.int .u64 10000000000000, PV.int .u64 100000000000000, PV.int .u64 1000000000000000, PV.int .u64 10000000000000000, PV.int .u64 100000000000000000, PV.int .u64 1000000000000000000, PV.int .u64 10000000000000000000] = (Q7 (cI .u64) gtabP).flatten := by kernel_rfl
end
end Go.Av
