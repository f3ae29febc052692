/- The law. Part of a proof of a given statement: for every input the law returns true and the arguments read as before; no condition beyond the given row. -/
import Derived.Test.YtgalebkdefaonaaDoorCode1
import Derived.Test.YtgalebkdefaonaaDoorAvChk
import Derived.KernelRfl
import Derived.Test.YtgalebkdefaonaaDoorProg
namespace Go.Av
noncomputable section
open Go.Proofs
set_option maxRecDepth 100000
theorem k108 : chkFunc Tryd.prog 108 c108 = true := by kernel_rfl
theorem k109 : chkFunc Tryd.prog 109 c109 = true := by kernel_rfl
theorem k110 : chkFunc Tryd.prog 110 c110 = true := by kernel_rfl
theorem k111 : chkFunc Tryd.prog 111 c111 = true := by kernel_rfl
theorem k112 : chkFunc Tryd.prog 112 c112 = true := by kernel_rfl
theorem k113 : chkFunc Tryd.prog 113 c113 = true := by kernel_rfl
theorem k114 : chkFunc Tryd.prog 114 c114 = true := by kernel_rfl
theorem k115 : chkFunc Tryd.prog 115 c115 = true := by kernel_rfl
theorem k116 : chkFunc Tryd.prog 116 c116 = true := by kernel_rfl
theorem k117 : chkFunc Tryd.prog 117 c117 = true := by kernel_rfl
theorem k118 : chkFunc Tryd.prog 118 c118 = true := by kernel_rfl
theorem k119 : chkFunc Tryd.prog 119 c119 = true := by kernel_rfl
theorem k124 : chkFunc Tryd.prog 124 c124 = true := by kernel_rfl
theorem k127 : chkFunc Tryd.prog 127 c127 = true := by kernel_rfl
theorem k128 : chkFunc Tryd.prog 128 c128 = true := by kernel_rfl
theorem k129 : chkFunc Tryd.prog 129 c129 = true := by kernel_rfl
end
end Go.Av
