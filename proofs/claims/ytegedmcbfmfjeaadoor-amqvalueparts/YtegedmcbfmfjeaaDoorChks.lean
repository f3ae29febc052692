/- The law. Part of a proof of a given statement: for every input the law returns true and the arguments read as before; no condition beyond the given row. -/
import Derived.Test.YtegedmcbfmfjeaaDoorCode1
import Derived.Test.YtegedmcbfmfjeaaDoorAvChk
import Derived.KernelRfl
import Derived.Test.YtegedmcbfmfjeaaDoorProg
namespace Go.Av
noncomputable section
open Go.Proofs
set_option maxRecDepth 100000
theorem k3 : Q8 Tryd.prog 3 c3 = true := by kernel_rfl
theorem k4 : Q8 Tryd.prog 4 c4 = true := by kernel_rfl
theorem k5 : Q8 Tryd.prog 5 c5 = true := by kernel_rfl
theorem k6 : Q8 Tryd.prog 6 c6 = true := by kernel_rfl
theorem k7 : Q8 Tryd.prog 7 c7 = true := by kernel_rfl
theorem k8 : Q8 Tryd.prog 8 c8 = true := by kernel_rfl
theorem k9 : Q8 Tryd.prog 9 c9 = true := by kernel_rfl
theorem k10 : Q8 Tryd.prog 10 c10 = true := by kernel_rfl
theorem k11 : Q8 Tryd.prog 11 c11 = true := by kernel_rfl
theorem k12 : Q8 Tryd.prog 12 c12 = true := by kernel_rfl
theorem k13 : Q8 Tryd.prog 13 c13 = true := by kernel_rfl
theorem k14 : Q8 Tryd.prog 14 c14 = true := by kernel_rfl
theorem k15 : Q8 Tryd.prog 15 c15 = true := by kernel_rfl
theorem k26 : Q8 Tryd.prog 26 c26 = true := by kernel_rfl
theorem k27 : Q8 Tryd.prog 27 c27 = true := by kernel_rfl
theorem k28 : Q8 Tryd.prog 28 c28 = true := by kernel_rfl
theorem k29 : Q8 Tryd.prog 29 c29 = true := by kernel_rfl
theorem k30 : Q8 Tryd.prog 30 c30 = true := by kernel_rfl
theorem k31 : Q8 Tryd.prog 31 c31 = true := by kernel_rfl
theorem k32 : Q8 Tryd.prog 32 c32 = true := by kernel_rfl
theorem k33 : Q8 Tryd.prog 33 c33 = true := by kernel_rfl
theorem k34 : Q8 Tryd.prog 34 c34 = true := by kernel_rfl
theorem k35 : Q8 Tryd.prog 35 c35 = true := by kernel_rfl
end
end Go.Av
namespace Go.Av
noncomputable section
open Go.Proofs
set_option maxRecDepth 100000
theorem k41 : Q8 Tryd.prog 41 c41 = true := by kernel_rfl
theorem k42 : Q8 Tryd.prog 42 c42 = true := by kernel_rfl
theorem k43 : Q8 Tryd.prog 43 c43 = true := by kernel_rfl
theorem k44 : Q8 Tryd.prog 44 c44 = true := by kernel_rfl
theorem k45 : Q8 Tryd.prog 45 c45 = true := by kernel_rfl
theorem k46 : Q8 Tryd.prog 46 c46 = true := by kernel_rfl
theorem k47 : Q8 Tryd.prog 47 c47 = true := by kernel_rfl
theorem k48 : Q8 Tryd.prog 48 c48 = true := by kernel_rfl
theorem k49 : Q8 Tryd.prog 49 c49 = true := by kernel_rfl
theorem k51 : Q8 Tryd.prog 51 c51 = true := by kernel_rfl
theorem k55 : Q8 Tryd.prog 55 c55 = true := by kernel_rfl
theorem k56 : Q8 Tryd.prog 56 c56 = true := by kernel_rfl
theorem k57 : Q8 Tryd.prog 57 c57 = true := by kernel_rfl
theorem k58 : Q8 Tryd.prog 58 c58 = true := by kernel_rfl
theorem k59 : Q8 Tryd.prog 59 c59 = true := by kernel_rfl
theorem k60 : Q8 Tryd.prog 60 c60 = true := by kernel_rfl
theorem k61 : Q8 Tryd.prog 61 c61 = true := by kernel_rfl
theorem k62 : Q8 Tryd.prog 62 c62 = true := by kernel_rfl
theorem k64 : Q8 Tryd.prog 64 c64 = true := by kernel_rfl
theorem k65 : Q8 Tryd.prog 65 c65 = true := by kernel_rfl
theorem k66 : Q8 Tryd.prog 66 c66 = true := by kernel_rfl
theorem k67 : Q8 Tryd.prog 67 c67 = true := by kernel_rfl
theorem k68 : Q8 Tryd.prog 68 c68 = true := by kernel_rfl
theorem k69 : Q8 Tryd.prog 69 c69 = true := by kernel_rfl
theorem k70 : Q8 Tryd.prog 70 c70 = true := by kernel_rfl
theorem k71 : Q8 Tryd.prog 71 c71 = true := by kernel_rfl
theorem k72 : Q8 Tryd.prog 72 c72 = true := by kernel_rfl
theorem k73 : Q8 Tryd.prog 73 c73 = true := by kernel_rfl
theorem k74 : Q8 Tryd.prog 74 c74 = true := by kernel_rfl
theorem k75 : Q8 Tryd.prog 75 c75 = true := by kernel_rfl
end
end Go.Av
namespace Go.Av
noncomputable section
open Go.Proofs
set_option maxRecDepth 100000
theorem k76 : Q8 Tryd.prog 76 c76 = true := by kernel_rfl
theorem k78 : Q8 Tryd.prog 78 c78 = true := by kernel_rfl
theorem k79 : Q8 Tryd.prog 79 c79 = true := by kernel_rfl
theorem k80 : Q8 Tryd.prog 80 c80 = true := by kernel_rfl
theorem k81 : Q8 Tryd.prog 81 c81 = true := by kernel_rfl
theorem k82 : Q8 Tryd.prog 82 c82 = true := by kernel_rfl
theorem k83 : Q8 Tryd.prog 83 c83 = true := by kernel_rfl
theorem k84 : Q8 Tryd.prog 84 c84 = true := by kernel_rfl
theorem k88 : Q8 Tryd.prog 88 c88 = true := by kernel_rfl
theorem k89 : Q8 Tryd.prog 89 c89 = true := by kernel_rfl
theorem k90 : Q8 Tryd.prog 90 c90 = true := by kernel_rfl
theorem k91 : Q8 Tryd.prog 91 c91 = true := by kernel_rfl
theorem k92 : Q8 Tryd.prog 92 c92 = true := by kernel_rfl
theorem k93 : Q8 Tryd.prog 93 c93 = true := by kernel_rfl
theorem k94 : Q8 Tryd.prog 94 c94 = true := by kernel_rfl
theorem k95 : Q8 Tryd.prog 95 c95 = true := by kernel_rfl
theorem k96 : Q8 Tryd.prog 96 c96 = true := by kernel_rfl
theorem k97 : Q8 Tryd.prog 97 c97 = true := by kernel_rfl
theorem k98 : Q8 Tryd.prog 98 c98 = true := by kernel_rfl
theorem k99 : Q8 Tryd.prog 99 c99 = true := by kernel_rfl
theorem Qqy : Q8 Tryd.prog 100 Qq0 = true := by kernel_rfl
theorem Qr0 : Q8 Tryd.prog 101 Qqa = true := by kernel_rfl
theorem Qh3 : Q8 Tryd.prog 102 Qq7 = true := by kernel_rfl
theorem Qqq : Q8 Tryd.prog 105 Qq4 = true := by kernel_rfl
theorem Qr3 : Q8 Tryd.prog 106 Qq2 = true := by kernel_rfl
theorem Qqt : Q8 Tryd.prog 107 Qq8 = true := by kernel_rfl
theorem Qqh : Q8 Tryd.prog 108 Qq9 = true := by kernel_rfl
end
end Go.Av
namespace Go.Av
noncomputable section
open Go.Proofs
set_option maxRecDepth 100000
theorem Qqj : Q8 Tryd.prog 119 Qq5 = true := by kernel_rfl
end
end Go.Av

