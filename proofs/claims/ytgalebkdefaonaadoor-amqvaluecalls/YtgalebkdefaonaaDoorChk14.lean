/- The law. Part of a proof of a given statement: for every input the law returns true and the arguments read as before; no condition beyond the given row. -/
import Derived.Test.YtgalebkdefaonaaDoorCode1
import Derived.Test.YtgalebkdefaonaaDoorAvChk
import Derived.KernelRfl
import Derived.Test.YtgalebkdefaonaaDoorProg
namespace Go.Av
noncomputable section
open Go.Proofs
set_option maxRecDepth 100000
theorem k140 : chkFunc Tryd.prog 140 c140 = true := by kernel_rfl
end
end Go.Av
