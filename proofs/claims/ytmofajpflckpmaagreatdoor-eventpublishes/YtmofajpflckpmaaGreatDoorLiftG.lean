/- The law. Part of a proof of a given statement: for every input the law returns true and the arguments read as before; no condition beyond the given row. -/
import Derived.Test.YtmofajpflckpmaaGreatDoorAvOwn
import Derived.Test.YtmofajpflckpmaaGreatDoorSeat1
import Derived.KernelRfl
namespace Go.Av
noncomputable section
@[reducible] def cUU (p : Int × Int) : List PV := [.int .u8 p.1, .int .u8 p.2]
def Qtg : List (Int × Int) := [(128, 191), (160, 191), (128, 159), (144, 191), (128, 143), (0, 0), (0, 0), (0, 0), (0, 0), (0, 0), (0, 0), (0, 0), (0, 0), (0, 0), (0, 0), (0, 0)]
end
end Go.Av
