/- The law. Part of a proof of a given statement: for every input the law returns true and the arguments read as before; no condition beyond the given row. -/
import Derived.Test.YtgalebkdefaonaaDoorCode1
import Derived.Test.YtgalebkdefaonaaDoorAvChk
import Derived.KernelRfl
import Derived.Test.YtgalebkdefaonaaDoorProg
import Derived.Test.YtgalebkdefaonaaDoorChk13
import Derived.Test.YtgalebkdefaonaaDoorChk14
namespace Go.Av
noncomputable section
open Go.Proofs
set_option maxRecDepth 100000
theorem k3 : chkFunc Tryd.prog 3 c3 = true := by kernel_rfl
theorem k5 : chkFunc Tryd.prog 5 c5 = true := by kernel_rfl
theorem k11 : chkFunc Tryd.prog 11 c11 = true := by kernel_rfl
theorem k17 : chkFunc Tryd.prog 17 c17 = true := by kernel_rfl
theorem k18 : chkFunc Tryd.prog 18 c18 = true := by kernel_rfl
theorem k19 : chkFunc Tryd.prog 19 c19 = true := by kernel_rfl
theorem k22 : chkFunc Tryd.prog 22 c22 = true := by kernel_rfl
theorem k23 : chkFunc Tryd.prog 23 c23 = true := by kernel_rfl
theorem k25 : chkFunc Tryd.prog 25 c25 = true := by kernel_rfl
theorem k26 : chkFunc Tryd.prog 26 c26 = true := by kernel_rfl
theorem k28 : chkFunc Tryd.prog 28 c28 = true := by kernel_rfl
end
end Go.Av
namespace Go.Av
noncomputable section
open Go.Proofs
set_option maxRecDepth 100000
theorem k31 : chkFunc Tryd.prog 31 c31 = true := by kernel_rfl
theorem k33 : chkFunc Tryd.prog 33 c33 = true := by kernel_rfl
theorem k35 : chkFunc Tryd.prog 35 c35 = true := by kernel_rfl
theorem k45 : chkFunc Tryd.prog 45 c45 = true := by kernel_rfl
theorem k46 : chkFunc Tryd.prog 46 c46 = true := by kernel_rfl
theorem k48 : chkFunc Tryd.prog 48 c48 = true := by kernel_rfl
theorem k58 : chkFunc Tryd.prog 58 c58 = true := by kernel_rfl
theorem k59 : chkFunc Tryd.prog 59 c59 = true := by kernel_rfl
theorem k60 : chkFunc Tryd.prog 60 c60 = true := by kernel_rfl
theorem k61 : chkFunc Tryd.prog 61 c61 = true := by kernel_rfl
theorem k62 : chkFunc Tryd.prog 62 c62 = true := by kernel_rfl
theorem k63 : chkFunc Tryd.prog 63 c63 = true := by kernel_rfl
theorem k64 : chkFunc Tryd.prog 64 c64 = true := by kernel_rfl
theorem k65 : chkFunc Tryd.prog 65 c65 = true := by kernel_rfl
end
end Go.Av
namespace Go.Av
noncomputable section
open Go.Proofs
set_option maxRecDepth 100000
theorem k73 : chkFunc Tryd.prog 73 c73 = true := by kernel_rfl
theorem k74 : chkFunc Tryd.prog 74 c74 = true := by kernel_rfl
theorem k75 : chkFunc Tryd.prog 75 c75 = true := by kernel_rfl
theorem k76 : chkFunc Tryd.prog 76 c76 = true := by kernel_rfl
theorem k77 : chkFunc Tryd.prog 77 c77 = true := by kernel_rfl
theorem k78 : chkFunc Tryd.prog 78 c78 = true := by kernel_rfl
theorem k79 : chkFunc Tryd.prog 79 c79 = true := by kernel_rfl
theorem k80 : chkFunc Tryd.prog 80 c80 = true := by kernel_rfl
theorem k89 : chkFunc Tryd.prog 89 c89 = true := by kernel_rfl
theorem k90 : chkFunc Tryd.prog 90 c90 = true := by kernel_rfl
theorem k91 : chkFunc Tryd.prog 91 c91 = true := by kernel_rfl
theorem k92 : chkFunc Tryd.prog 92 c92 = true := by kernel_rfl
theorem k93 : chkFunc Tryd.prog 93 c93 = true := by kernel_rfl
theorem k100 : chkFunc Tryd.prog 100 c100 = true := by kernel_rfl
theorem k101 : chkFunc Tryd.prog 101 c101 = true := by kernel_rfl
theorem k102 : chkFunc Tryd.prog 102 c102 = true := by kernel_rfl
end
end Go.Av

