/- The law. Part of the proof of the given statement AmqprimCodes: for every input the law returns true and the arguments read as before; no condition beyond the given row. -/
import Derived.Test.YtgalebkdefaonaaDoorCode
import Derived.Test.YtgalebkdefaonaaDoorAvChk
import Derived.KernelRfl
import Derived.Test.YtgalebkdefaonaaDoorProg
namespace Go.Av
noncomputable section
open Go.Proofs
set_option maxRecDepth 100000
theorem k100 : chkFunc Tryd.prog 100 c100 = true := by kernel_rfl
theorem k58 : chkFunc Tryd.prog 58 c58 = true := by kernel_rfl
theorem k65 : chkFunc Tryd.prog 65 c65 = true := by kernel_rfl
theorem k64 : chkFunc Tryd.prog 64 c64 = true := by kernel_rfl
theorem k19 : chkFunc Tryd.prog 19 c19 = true := by kernel_rfl
theorem k16 : chkFunc Tryd.prog 16 c16 = true := by kernel_rfl
theorem k4 : chkFunc Tryd.prog 4 c4 = true := by kernel_rfl
end
end Go.Av
