/- The law. Part of a proof of a given statement: for every input the law returns true and the arguments read as before; no condition beyond the given row. -/
import Derived.Test.YtgalebkdefaonaaDoorCode1
import Derived.Test.YtgalebkdefaonaaDoorAvChk
import Derived.KernelRfl
import Derived.Test.YtgalebkdefaonaaDoorProg
namespace Go.Av
noncomputable section
open Go.Proofs
set_option maxRecDepth 100000
theorem k12 : chkFunc Tryd.prog 12 c12 = true := by kernel_rfl
theorem k15 : chkFunc Tryd.prog 15 c15 = true := by kernel_rfl
theorem k16 : chkFunc Tryd.prog 16 c16 = true := by kernel_rfl
theorem k17 : chkFunc Tryd.prog 17 c17 = true := by kernel_rfl
theorem k18 : chkFunc Tryd.prog 18 c18 = true := by kernel_rfl
theorem k19 : chkFunc Tryd.prog 19 c19 = true := by kernel_rfl
theorem k20 : chkFunc Tryd.prog 20 c20 = true := by kernel_rfl
theorem k21 : chkFunc Tryd.prog 21 c21 = true := by kernel_rfl
theorem k22 : chkFunc Tryd.prog 22 c22 = true := by kernel_rfl
theorem k23 : chkFunc Tryd.prog 23 c23 = true := by kernel_rfl
theorem k26 : chkFunc Tryd.prog 26 c26 = true := by kernel_rfl
theorem k28 : chkFunc Tryd.prog 28 c28 = true := by kernel_rfl
theorem k29 : chkFunc Tryd.prog 29 c29 = true := by kernel_rfl
theorem k31 : chkFunc Tryd.prog 31 c31 = true := by kernel_rfl
theorem k33 : chkFunc Tryd.prog 33 c33 = true := by kernel_rfl
theorem k35 : chkFunc Tryd.prog 35 c35 = true := by kernel_rfl
theorem k37 : chkFunc Tryd.prog 37 c37 = true := by kernel_rfl
theorem k45 : chkFunc Tryd.prog 45 c45 = true := by kernel_rfl
theorem k46 : chkFunc Tryd.prog 46 c46 = true := by kernel_rfl
theorem k48 : chkFunc Tryd.prog 48 c48 = true := by kernel_rfl
theorem k54 : chkFunc Tryd.prog 54 c54 = true := by kernel_rfl
theorem k55 : chkFunc Tryd.prog 55 c55 = true := by kernel_rfl
theorem k56 : chkFunc Tryd.prog 56 c56 = true := by kernel_rfl
theorem k57 : chkFunc Tryd.prog 57 c57 = true := by kernel_rfl
theorem k58 : chkFunc Tryd.prog 58 c58 = true := by kernel_rfl
theorem k59 : chkFunc Tryd.prog 59 c59 = true := by kernel_rfl
theorem k60 : chkFunc Tryd.prog 60 c60 = true := by kernel_rfl
theorem k61 : chkFunc Tryd.prog 61 c61 = true := by kernel_rfl
theorem k62 : chkFunc Tryd.prog 62 c62 = true := by kernel_rfl
theorem k63 : chkFunc Tryd.prog 63 c63 = true := by kernel_rfl
theorem k64 : chkFunc Tryd.prog 64 c64 = true := by kernel_rfl
theorem k65 : chkFunc Tryd.prog 65 c65 = true := by kernel_rfl
theorem k66 : chkFunc Tryd.prog 66 c66 = true := by kernel_rfl
theorem k67 : chkFunc Tryd.prog 67 c67 = true := by kernel_rfl
theorem k68 : chkFunc Tryd.prog 68 c68 = true := by kernel_rfl
theorem k69 : chkFunc Tryd.prog 69 c69 = true := by kernel_rfl
theorem k70 : chkFunc Tryd.prog 70 c70 = true := by kernel_rfl
theorem k73 : chkFunc Tryd.prog 73 c73 = true := by kernel_rfl
theorem k74 : chkFunc Tryd.prog 74 c74 = true := by kernel_rfl
theorem k75 : chkFunc Tryd.prog 75 c75 = true := by kernel_rfl
theorem k76 : chkFunc Tryd.prog 76 c76 = true := by kernel_rfl
theorem k77 : chkFunc Tryd.prog 77 c77 = true := by kernel_rfl
theorem k78 : chkFunc Tryd.prog 78 c78 = true := by kernel_rfl
theorem k79 : chkFunc Tryd.prog 79 c79 = true := by kernel_rfl
theorem k80 : chkFunc Tryd.prog 80 c80 = true := by kernel_rfl
theorem k89 : chkFunc Tryd.prog 89 c89 = true := by kernel_rfl
theorem k90 : chkFunc Tryd.prog 90 c90 = true := by kernel_rfl
theorem k91 : chkFunc Tryd.prog 91 c91 = true := by kernel_rfl
end
end Go.Av
namespace Go.Av
noncomputable section
open Go.Proofs
set_option maxRecDepth 100000
theorem k92 : chkFunc Tryd.prog 92 c92 = true := by kernel_rfl
theorem k93 : chkFunc Tryd.prog 93 c93 = true := by kernel_rfl
theorem k96 : chkFunc Tryd.prog 96 c96 = true := by kernel_rfl
theorem k97 : chkFunc Tryd.prog 97 c97 = true := by kernel_rfl
theorem k98 : chkFunc Tryd.prog 98 c98 = true := by kernel_rfl
theorem k99 : chkFunc Tryd.prog 99 c99 = true := by kernel_rfl
theorem k100 : chkFunc Tryd.prog 100 c100 = true := by kernel_rfl
theorem k101 : chkFunc Tryd.prog 101 c101 = true := by kernel_rfl
theorem k102 : chkFunc Tryd.prog 102 c102 = true := by kernel_rfl
theorem k103 : chkFunc Tryd.prog 103 c103 = true := by kernel_rfl
theorem k108 : chkFunc Tryd.prog 108 c108 = true := by kernel_rfl
theorem k109 : chkFunc Tryd.prog 109 c109 = true := by kernel_rfl
theorem k110 : chkFunc Tryd.prog 110 c110 = true := by kernel_rfl
theorem k111 : chkFunc Tryd.prog 111 c111 = true := by kernel_rfl
theorem k115 : chkFunc Tryd.prog 115 c115 = true := by kernel_rfl
theorem k116 : chkFunc Tryd.prog 116 c116 = true := by kernel_rfl
theorem k120 : chkFunc Tryd.prog 120 c120 = true := by kernel_rfl
theorem k121 : chkFunc Tryd.prog 121 c121 = true := by kernel_rfl
theorem k122 : chkFunc Tryd.prog 122 c122 = true := by kernel_rfl
theorem k123 : chkFunc Tryd.prog 123 c123 = true := by kernel_rfl
theorem k124 : chkFunc Tryd.prog 124 c124 = true := by kernel_rfl
theorem k128 : chkFunc Tryd.prog 128 c128 = true := by kernel_rfl
theorem k130 : chkFunc Tryd.prog 130 c130 = true := by kernel_rfl
theorem k131 : chkFunc Tryd.prog 131 c131 = true := by kernel_rfl
theorem k132 : chkFunc Tryd.prog 132 c132 = true := by kernel_rfl
theorem k133 : chkFunc Tryd.prog 133 c133 = true := by kernel_rfl
theorem k134 : chkFunc Tryd.prog 134 c134 = true := by kernel_rfl
end
end Go.Av
namespace Go.Av
noncomputable section
open Go.Proofs
set_option maxRecDepth 100000
theorem k135 : chkFunc Tryd.prog 135 c135 = true := by kernel_rfl
theorem k136 : chkFunc Tryd.prog 136 c136 = true := by kernel_rfl
theorem k137 : chkFunc Tryd.prog 137 c137 = true := by kernel_rfl
theorem k138 : chkFunc Tryd.prog 138 c138 = true := by kernel_rfl
theorem k139 : chkFunc Tryd.prog 139 c139 = true := by kernel_rfl
theorem k141 : chkFunc Tryd.prog 141 c141 = true := by kernel_rfl
theorem k142 : chkFunc Tryd.prog 142 c142 = true := by kernel_rfl
theorem k143 : chkFunc Tryd.prog 143 c143 = true := by kernel_rfl
theorem k144 : chkFunc Tryd.prog 144 c144 = true := by kernel_rfl
theorem k145 : chkFunc Tryd.prog 145 c145 = true := by kernel_rfl
theorem k146 : chkFunc Tryd.prog 146 c146 = true := by kernel_rfl
theorem k147 : chkFunc Tryd.prog 147 c147 = true := by kernel_rfl
end
end Go.Av

