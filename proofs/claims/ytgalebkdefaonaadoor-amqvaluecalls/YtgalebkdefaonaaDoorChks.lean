/- The law. Part of a proof of a given statement: for every input the law returns true and the arguments read as before; no condition beyond the given row. -/
import Derived.Test.YtgalebkdefaonaaDoorCode1
import Derived.Test.YtgalebkdefaonaaDoorAvChk
import Derived.KernelRfl
import Derived.Test.YtgalebkdefaonaaDoorProg
import Derived.Test.YtgalebkdefaonaaDoorChk13
import Derived.Test.YtgalebkdefaonaaDoorChk14
namespace Go.Av
noncomputable section
open Go.Proofs
set_option maxRecDepth 100000
theorem k3 : chkFunc Tryd.prog 3 c3 = true := by kernel_rfl
theorem k5 : chkFunc Tryd.prog 5 c5 = true := by kernel_rfl
theorem k13 : chkFunc Tryd.prog 13 c13 = true := by kernel_rfl
theorem k15 : chkFunc Tryd.prog 15 c15 = true := by kernel_rfl
theorem k17 : chkFunc Tryd.prog 17 c17 = true := by kernel_rfl
theorem k19 : chkFunc Tryd.prog 19 c19 = true := by kernel_rfl
theorem k22 : chkFunc Tryd.prog 22 c22 = true := by kernel_rfl
theorem k23 : chkFunc Tryd.prog 23 c23 = true := by kernel_rfl
theorem k25 : chkFunc Tryd.prog 25 c25 = true := by kernel_rfl
theorem k26 : chkFunc Tryd.prog 26 c26 = true := by kernel_rfl
theorem k28 : chkFunc Tryd.prog 28 c28 = true := by kernel_rfl
end
end Go.Av
namespace Go.Av
noncomputable section
open Go.Proofs
set_option maxRecDepth 100000
theorem k29 : chkFunc Tryd.prog 29 c29 = true := by kernel_rfl
theorem k30 : chkFunc Tryd.prog 30 c30 = true := by kernel_rfl
theorem k31 : chkFunc Tryd.prog 31 c31 = true := by kernel_rfl
theorem k33 : chkFunc Tryd.prog 33 c33 = true := by kernel_rfl
theorem k35 : chkFunc Tryd.prog 35 c35 = true := by kernel_rfl
theorem k36 : chkFunc Tryd.prog 36 c36 = true := by kernel_rfl
theorem k41 : chkFunc Tryd.prog 41 c41 = true := by kernel_rfl
theorem k43 : chkFunc Tryd.prog 43 c43 = true := by kernel_rfl
theorem k45 : chkFunc Tryd.prog 45 c45 = true := by kernel_rfl
theorem k46 : chkFunc Tryd.prog 46 c46 = true := by kernel_rfl
theorem k47 : chkFunc Tryd.prog 47 c47 = true := by kernel_rfl
theorem k48 : chkFunc Tryd.prog 48 c48 = true := by kernel_rfl
theorem k49 : chkFunc Tryd.prog 49 c49 = true := by kernel_rfl
theorem k50 : chkFunc Tryd.prog 50 c50 = true := by kernel_rfl
theorem k51 : chkFunc Tryd.prog 51 c51 = true := by kernel_rfl
theorem k52 : chkFunc Tryd.prog 52 c52 = true := by kernel_rfl
theorem k53 : chkFunc Tryd.prog 53 c53 = true := by kernel_rfl
theorem k54 : chkFunc Tryd.prog 54 c54 = true := by kernel_rfl
theorem k58 : chkFunc Tryd.prog 58 c58 = true := by kernel_rfl
theorem k59 : chkFunc Tryd.prog 59 c59 = true := by kernel_rfl
theorem k60 : chkFunc Tryd.prog 60 c60 = true := by kernel_rfl
theorem k61 : chkFunc Tryd.prog 61 c61 = true := by kernel_rfl
theorem k62 : chkFunc Tryd.prog 62 c62 = true := by kernel_rfl
theorem k63 : chkFunc Tryd.prog 63 c63 = true := by kernel_rfl
theorem k64 : chkFunc Tryd.prog 64 c64 = true := by kernel_rfl
theorem k65 : chkFunc Tryd.prog 65 c65 = true := by kernel_rfl
end
end Go.Av
namespace Go.Av
noncomputable section
open Go.Proofs
set_option maxRecDepth 100000
theorem k73 : chkFunc Tryd.prog 73 c73 = true := by kernel_rfl
theorem k74 : chkFunc Tryd.prog 74 c74 = true := by kernel_rfl
theorem k75 : chkFunc Tryd.prog 75 c75 = true := by kernel_rfl
theorem k76 : chkFunc Tryd.prog 76 c76 = true := by kernel_rfl
theorem k77 : chkFunc Tryd.prog 77 c77 = true := by kernel_rfl
theorem k78 : chkFunc Tryd.prog 78 c78 = true := by kernel_rfl
theorem k79 : chkFunc Tryd.prog 79 c79 = true := by kernel_rfl
theorem k80 : chkFunc Tryd.prog 80 c80 = true := by kernel_rfl
theorem k81 : chkFunc Tryd.prog 81 c81 = true := by kernel_rfl
theorem k82 : chkFunc Tryd.prog 82 c82 = true := by kernel_rfl
theorem k83 : chkFunc Tryd.prog 83 c83 = true := by kernel_rfl
theorem k84 : chkFunc Tryd.prog 84 c84 = true := by kernel_rfl
theorem k85 : chkFunc Tryd.prog 85 c85 = true := by kernel_rfl
theorem k86 : chkFunc Tryd.prog 86 c86 = true := by kernel_rfl
theorem k87 : chkFunc Tryd.prog 87 c87 = true := by kernel_rfl
theorem k88 : chkFunc Tryd.prog 88 c88 = true := by kernel_rfl
theorem k89 : chkFunc Tryd.prog 89 c89 = true := by kernel_rfl
theorem k90 : chkFunc Tryd.prog 90 c90 = true := by kernel_rfl
theorem k91 : chkFunc Tryd.prog 91 c91 = true := by kernel_rfl
theorem k92 : chkFunc Tryd.prog 92 c92 = true := by kernel_rfl
theorem k93 : chkFunc Tryd.prog 93 c93 = true := by kernel_rfl
theorem k94 : chkFunc Tryd.prog 94 c94 = true := by kernel_rfl
theorem k95 : chkFunc Tryd.prog 95 c95 = true := by kernel_rfl
theorem k100 : chkFunc Tryd.prog 100 c100 = true := by kernel_rfl
theorem k101 : chkFunc Tryd.prog 101 c101 = true := by kernel_rfl
theorem k102 : chkFunc Tryd.prog 102 c102 = true := by kernel_rfl
end
end Go.Av

