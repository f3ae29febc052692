/- The law. Part of a proof of a given statement: for every input the law returns true and the arguments read as before; no condition beyond the given row. -/
import Derived.Test.YtegedmcbfmfjeaaDoorCode1
import Derived.Test.YtegedmcbfmfjeaaDoorAvChk
import Derived.KernelRfl
import Derived.Test.YtegedmcbfmfjeaaDoorProg
namespace Go.Av
noncomputable section
open Go.Proofs
set_option maxRecDepth 100000
theorem k3 : Qm Tryd.prog 3 c3 = true := by kernel_rfl
theorem k4 : Qm Tryd.prog 4 c4 = true := by kernel_rfl
theorem k5 : Qm Tryd.prog 5 c5 = true := by kernel_rfl
theorem k6 : Qm Tryd.prog 6 c6 = true := by kernel_rfl
theorem k7 : Qm Tryd.prog 7 c7 = true := by kernel_rfl
theorem k11 : Qm Tryd.prog 11 c11 = true := by kernel_rfl
theorem k16 : Qm Tryd.prog 16 c16 = true := by kernel_rfl
theorem k17 : Qm Tryd.prog 17 c17 = true := by kernel_rfl
theorem k18 : Qm Tryd.prog 18 c18 = true := by kernel_rfl
theorem k19 : Qm Tryd.prog 19 c19 = true := by kernel_rfl
theorem k20 : Qm Tryd.prog 20 c20 = true := by kernel_rfl
theorem k21 : Qm Tryd.prog 21 c21 = true := by kernel_rfl
theorem k34 : Qm Tryd.prog 34 c34 = true := by kernel_rfl
theorem k35 : Qm Tryd.prog 35 c35 = true := by kernel_rfl
theorem k36 : Qm Tryd.prog 36 c36 = true := by kernel_rfl
theorem k37 : Qm Tryd.prog 37 c37 = true := by kernel_rfl
end
end Go.Av
namespace Go.Av
noncomputable section
open Go.Proofs
set_option maxRecDepth 100000
theorem k38 : Qm Tryd.prog 38 c38 = true := by kernel_rfl
theorem k46 : Qm Tryd.prog 46 c46 = true := by kernel_rfl
theorem k47 : Qm Tryd.prog 47 c47 = true := by kernel_rfl
theorem k48 : Qm Tryd.prog 48 c48 = true := by kernel_rfl
theorem k49 : Qm Tryd.prog 49 c49 = true := by kernel_rfl
theorem k50 : Qm Tryd.prog 50 c50 = true := by kernel_rfl
theorem k51 : Qm Tryd.prog 51 c51 = true := by kernel_rfl
theorem k52 : Qm Tryd.prog 52 c52 = true := by kernel_rfl
theorem k53 : Qm Tryd.prog 53 c53 = true := by kernel_rfl
theorem k54 : Qm Tryd.prog 54 c54 = true := by kernel_rfl
theorem k64 : Qm Tryd.prog 64 c64 = true := by kernel_rfl
theorem k65 : Qm Tryd.prog 65 c65 = true := by kernel_rfl
theorem k66 : Qm Tryd.prog 66 c66 = true := by kernel_rfl
theorem k67 : Qm Tryd.prog 67 c67 = true := by kernel_rfl
theorem k68 : Qm Tryd.prog 68 c68 = true := by kernel_rfl
theorem k69 : Qm Tryd.prog 69 c69 = true := by kernel_rfl
theorem k70 : Qm Tryd.prog 70 c70 = true := by kernel_rfl
theorem k71 : Qm Tryd.prog 71 c71 = true := by kernel_rfl
theorem k72 : Qm Tryd.prog 72 c72 = true := by kernel_rfl
theorem k73 : Qm Tryd.prog 73 c73 = true := by kernel_rfl
theorem k74 : Qm Tryd.prog 74 c74 = true := by kernel_rfl
theorem k75 : Qm Tryd.prog 75 c75 = true := by kernel_rfl
end
end Go.Av
namespace Go.Av
noncomputable section
open Go.Proofs
set_option maxRecDepth 100000
theorem k76 : Qm Tryd.prog 76 c76 = true := by kernel_rfl
theorem k77 : Qm Tryd.prog 77 c77 = true := by kernel_rfl
theorem k88 : Qm Tryd.prog 88 c88 = true := by kernel_rfl
theorem k89 : Qm Tryd.prog 89 c89 = true := by kernel_rfl
theorem k90 : Qm Tryd.prog 90 c90 = true := by kernel_rfl
theorem k91 : Qm Tryd.prog 91 c91 = true := by kernel_rfl
theorem k92 : Qm Tryd.prog 92 c92 = true := by kernel_rfl
theorem k93 : Qm Tryd.prog 93 c93 = true := by kernel_rfl
theorem k94 : Qm Tryd.prog 94 c94 = true := by kernel_rfl
theorem k95 : Qm Tryd.prog 95 c95 = true := by kernel_rfl
theorem k96 : Qm Tryd.prog 96 c96 = true := by kernel_rfl
theorem k97 : Qm Tryd.prog 97 c97 = true := by kernel_rfl
theorem Qmr : Qm Tryd.prog 105 Qlp = true := by kernel_rfl
theorem Qmn : Qm Tryd.prog 106 Qln = true := by kernel_rfl
theorem Qmd : Qm Tryd.prog 107 Qlt = true := by kernel_rfl
end
end Go.Av
namespace Go.Av
noncomputable section
open Go.Proofs
set_option maxRecDepth 100000
theorem Qmp : Qm Tryd.prog 119 Qlq = true := by kernel_rfl
end
end Go.Av

