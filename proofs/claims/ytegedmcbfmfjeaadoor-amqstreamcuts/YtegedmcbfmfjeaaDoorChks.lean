/- The law. Part of a proof of a given statement: for every input the law returns true and the arguments read as before; no condition beyond the given row. -/
import Derived.Test.YtegedmcbfmfjeaaDoorCode1
import Derived.Test.YtegedmcbfmfjeaaDoorAvChk
import Derived.KernelRfl
import Derived.Test.YtegedmcbfmfjeaaDoorProg
namespace Go.Av
noncomputable section
open Go.Proofs
set_option maxRecDepth 100000
theorem k3 : Qh Tryd.prog 3 c3 = true := by kernel_rfl
theorem k4 : Qh Tryd.prog 4 c4 = true := by kernel_rfl
theorem k5 : Qh Tryd.prog 5 c5 = true := by kernel_rfl
theorem k6 : Qh Tryd.prog 6 c6 = true := by kernel_rfl
theorem k7 : Qh Tryd.prog 7 c7 = true := by kernel_rfl
theorem k11 : Qh Tryd.prog 11 c11 = true := by kernel_rfl
theorem k16 : Qh Tryd.prog 16 c16 = true := by kernel_rfl
theorem k17 : Qh Tryd.prog 17 c17 = true := by kernel_rfl
theorem k18 : Qh Tryd.prog 18 c18 = true := by kernel_rfl
theorem k19 : Qh Tryd.prog 19 c19 = true := by kernel_rfl
theorem k20 : Qh Tryd.prog 20 c20 = true := by kernel_rfl
theorem k21 : Qh Tryd.prog 21 c21 = true := by kernel_rfl
theorem k22 : Qh Tryd.prog 22 c22 = true := by kernel_rfl
theorem k23 : Qh Tryd.prog 23 c23 = true := by kernel_rfl
theorem k24 : Qh Tryd.prog 24 c24 = true := by kernel_rfl
theorem k25 : Qh Tryd.prog 25 c25 = true := by kernel_rfl
theorem k27 : Qh Tryd.prog 27 c27 = true := by kernel_rfl
theorem k34 : Qh Tryd.prog 34 c34 = true := by kernel_rfl
theorem k35 : Qh Tryd.prog 35 c35 = true := by kernel_rfl
theorem k36 : Qh Tryd.prog 36 c36 = true := by kernel_rfl
theorem k37 : Qh Tryd.prog 37 c37 = true := by kernel_rfl
end
end Go.Av
namespace Go.Av
noncomputable section
open Go.Proofs
set_option maxRecDepth 100000
theorem k38 : Qh Tryd.prog 38 c38 = true := by kernel_rfl
theorem k39 : Qh Tryd.prog 39 c39 = true := by kernel_rfl
theorem k40 : Qh Tryd.prog 40 c40 = true := by kernel_rfl
theorem k46 : Qh Tryd.prog 46 c46 = true := by kernel_rfl
theorem k47 : Qh Tryd.prog 47 c47 = true := by kernel_rfl
theorem k48 : Qh Tryd.prog 48 c48 = true := by kernel_rfl
theorem k49 : Qh Tryd.prog 49 c49 = true := by kernel_rfl
theorem k50 : Qh Tryd.prog 50 c50 = true := by kernel_rfl
theorem k51 : Qh Tryd.prog 51 c51 = true := by kernel_rfl
theorem k52 : Qh Tryd.prog 52 c52 = true := by kernel_rfl
theorem k53 : Qh Tryd.prog 53 c53 = true := by kernel_rfl
theorem k54 : Qh Tryd.prog 54 c54 = true := by kernel_rfl
theorem k64 : Qh Tryd.prog 64 c64 = true := by kernel_rfl
theorem k65 : Qh Tryd.prog 65 c65 = true := by kernel_rfl
theorem k66 : Qh Tryd.prog 66 c66 = true := by kernel_rfl
theorem k67 : Qh Tryd.prog 67 c67 = true := by kernel_rfl
theorem k68 : Qh Tryd.prog 68 c68 = true := by kernel_rfl
theorem k69 : Qh Tryd.prog 69 c69 = true := by kernel_rfl
theorem k70 : Qh Tryd.prog 70 c70 = true := by kernel_rfl
theorem k71 : Qh Tryd.prog 71 c71 = true := by kernel_rfl
theorem k72 : Qh Tryd.prog 72 c72 = true := by kernel_rfl
theorem k73 : Qh Tryd.prog 73 c73 = true := by kernel_rfl
theorem k74 : Qh Tryd.prog 74 c74 = true := by kernel_rfl
theorem k75 : Qh Tryd.prog 75 c75 = true := by kernel_rfl
end
end Go.Av
namespace Go.Av
noncomputable section
open Go.Proofs
set_option maxRecDepth 100000
theorem k76 : Qh Tryd.prog 76 c76 = true := by kernel_rfl
theorem k77 : Qh Tryd.prog 77 c77 = true := by kernel_rfl
theorem k88 : Qh Tryd.prog 88 c88 = true := by kernel_rfl
theorem k89 : Qh Tryd.prog 89 c89 = true := by kernel_rfl
theorem k90 : Qh Tryd.prog 90 c90 = true := by kernel_rfl
theorem k91 : Qh Tryd.prog 91 c91 = true := by kernel_rfl
theorem k92 : Qh Tryd.prog 92 c92 = true := by kernel_rfl
theorem k93 : Qh Tryd.prog 93 c93 = true := by kernel_rfl
theorem k94 : Qh Tryd.prog 94 c94 = true := by kernel_rfl
theorem k95 : Qh Tryd.prog 95 c95 = true := by kernel_rfl
theorem k96 : Qh Tryd.prog 96 c96 = true := by kernel_rfl
theorem k97 : Qh Tryd.prog 97 c97 = true := by kernel_rfl
theorem Qne : Qh Tryd.prog 105 Qmc = true := by kernel_rfl
theorem Qn6 : Qh Tryd.prog 106 Qme = true := by kernel_rfl
theorem Qn1 : Qh Tryd.prog 107 Qmd = true := by kernel_rfl
end
end Go.Av
namespace Go.Av
noncomputable section
open Go.Proofs
set_option maxRecDepth 100000
theorem Qni : Qh Tryd.prog 119 Qmk = true := by kernel_rfl
end
end Go.Av

