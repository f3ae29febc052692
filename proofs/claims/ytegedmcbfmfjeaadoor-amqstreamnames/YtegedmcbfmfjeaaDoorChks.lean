/- The law. Part of a proof of a given statement: for every input the law returns true and the arguments read as before; no condition beyond the given row. -/
import Derived.Test.YtegedmcbfmfjeaaDoorCode1
import Derived.Test.YtegedmcbfmfjeaaDoorAvChk
import Derived.KernelRfl
import Derived.Test.YtegedmcbfmfjeaaDoorProg
namespace Go.Av
noncomputable section
open Go.Proofs
set_option maxRecDepth 100000
theorem k3 : Qd Tryd.prog 3 c3 = true := by kernel_rfl
theorem k4 : Qd Tryd.prog 4 c4 = true := by kernel_rfl
theorem k5 : Qd Tryd.prog 5 c5 = true := by kernel_rfl
theorem k6 : Qd Tryd.prog 6 c6 = true := by kernel_rfl
theorem k7 : Qd Tryd.prog 7 c7 = true := by kernel_rfl
theorem k11 : Qd Tryd.prog 11 c11 = true := by kernel_rfl
theorem k16 : Qd Tryd.prog 16 c16 = true := by kernel_rfl
theorem k17 : Qd Tryd.prog 17 c17 = true := by kernel_rfl
theorem k18 : Qd Tryd.prog 18 c18 = true := by kernel_rfl
theorem k19 : Qd Tryd.prog 19 c19 = true := by kernel_rfl
theorem k20 : Qd Tryd.prog 20 c20 = true := by kernel_rfl
theorem k21 : Qd Tryd.prog 21 c21 = true := by kernel_rfl
theorem k22 : Qd Tryd.prog 22 c22 = true := by kernel_rfl
theorem k23 : Qd Tryd.prog 23 c23 = true := by kernel_rfl
theorem k34 : Qd Tryd.prog 34 c34 = true := by kernel_rfl
theorem k35 : Qd Tryd.prog 35 c35 = true := by kernel_rfl
theorem k36 : Qd Tryd.prog 36 c36 = true := by kernel_rfl
theorem k37 : Qd Tryd.prog 37 c37 = true := by kernel_rfl
end
end Go.Av
namespace Go.Av
noncomputable section
open Go.Proofs
set_option maxRecDepth 100000
theorem k38 : Qd Tryd.prog 38 c38 = true := by kernel_rfl
theorem k46 : Qd Tryd.prog 46 c46 = true := by kernel_rfl
theorem k47 : Qd Tryd.prog 47 c47 = true := by kernel_rfl
theorem k48 : Qd Tryd.prog 48 c48 = true := by kernel_rfl
theorem k49 : Qd Tryd.prog 49 c49 = true := by kernel_rfl
theorem k50 : Qd Tryd.prog 50 c50 = true := by kernel_rfl
theorem k51 : Qd Tryd.prog 51 c51 = true := by kernel_rfl
theorem k52 : Qd Tryd.prog 52 c52 = true := by kernel_rfl
theorem k53 : Qd Tryd.prog 53 c53 = true := by kernel_rfl
theorem k54 : Qd Tryd.prog 54 c54 = true := by kernel_rfl
theorem k64 : Qd Tryd.prog 64 c64 = true := by kernel_rfl
theorem k65 : Qd Tryd.prog 65 c65 = true := by kernel_rfl
theorem k66 : Qd Tryd.prog 66 c66 = true := by kernel_rfl
theorem k67 : Qd Tryd.prog 67 c67 = true := by kernel_rfl
theorem k68 : Qd Tryd.prog 68 c68 = true := by kernel_rfl
theorem k69 : Qd Tryd.prog 69 c69 = true := by kernel_rfl
theorem k70 : Qd Tryd.prog 70 c70 = true := by kernel_rfl
theorem k71 : Qd Tryd.prog 71 c71 = true := by kernel_rfl
theorem k72 : Qd Tryd.prog 72 c72 = true := by kernel_rfl
theorem k73 : Qd Tryd.prog 73 c73 = true := by kernel_rfl
theorem k74 : Qd Tryd.prog 74 c74 = true := by kernel_rfl
theorem k75 : Qd Tryd.prog 75 c75 = true := by kernel_rfl
end
end Go.Av
namespace Go.Av
noncomputable section
open Go.Proofs
set_option maxRecDepth 100000
theorem k76 : Qd Tryd.prog 76 c76 = true := by kernel_rfl
theorem k77 : Qd Tryd.prog 77 c77 = true := by kernel_rfl
theorem k88 : Qd Tryd.prog 88 c88 = true := by kernel_rfl
theorem k89 : Qd Tryd.prog 89 c89 = true := by kernel_rfl
theorem k90 : Qd Tryd.prog 90 c90 = true := by kernel_rfl
theorem k91 : Qd Tryd.prog 91 c91 = true := by kernel_rfl
theorem k92 : Qd Tryd.prog 92 c92 = true := by kernel_rfl
theorem k93 : Qd Tryd.prog 93 c93 = true := by kernel_rfl
theorem k94 : Qd Tryd.prog 94 c94 = true := by kernel_rfl
theorem k95 : Qd Tryd.prog 95 c95 = true := by kernel_rfl
theorem k96 : Qd Tryd.prog 96 c96 = true := by kernel_rfl
theorem k97 : Qd Tryd.prog 97 c97 = true := by kernel_rfl
theorem Qgd : Qd Tryd.prog 105 Qfs = true := by kernel_rfl
theorem Qgu : Qd Tryd.prog 106 Qg7 = true := by kernel_rfl
theorem Qgv : Qd Tryd.prog 107 Qg5 = true := by kernel_rfl
end
end Go.Av
namespace Go.Av
noncomputable section
open Go.Proofs
set_option maxRecDepth 100000
theorem Qh9 : Qd Tryd.prog 119 Qg6 = true := by kernel_rfl
end
end Go.Av

