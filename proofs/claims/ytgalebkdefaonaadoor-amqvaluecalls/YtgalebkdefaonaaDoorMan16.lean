/- The law. Part of a proof of a given statement: for every input the law returns true and the arguments read as before; no condition beyond the given row. -/
import Derived.Test.YtgalebkdefaonaaDoorLiftTy
import Derived.Test.YtgalebkdefaonaaDoorChks
import Derived.Test.YtgalebkdefaonaaDoorSeat1
import Derived.Test.YtgalebkdefaonaaDoorAvClosed4
import Derived.KernelRfl
namespace Go.Av
noncomputable section
open Go.Proofs
set_option maxRecDepth 1000000
section
end
end
end Go.Av
