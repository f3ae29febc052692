/- The law. Part of a proof of a given statement: for every input the law returns true and the arguments read as before; no condition beyond the given row. -/
import Derived.Test.YtegedmcbfmfjeaaGreatDoorCode1
import Derived.Test.YtegedmcbfmfjeaaGreatDoorAvChk
import Derived.KernelRfl
import Derived.Test.YtegedmcbfmfjeaaGreatDoorProg
namespace Go.Av
noncomputable section
open Go.Proofs
set_option maxRecDepth 100000
theorem k3 : Qc Tryz.prog 3 c3 = true := by kernel_rfl
theorem k4 : Qc Tryz.prog 4 c4 = true := by kernel_rfl
theorem k5 : Qc Tryz.prog 5 c5 = true := by kernel_rfl
theorem k6 : Qc Tryz.prog 6 c6 = true := by kernel_rfl
theorem k7 : Qc Tryz.prog 7 c7 = true := by kernel_rfl
theorem k8 : Qc Tryz.prog 8 c8 = true := by kernel_rfl
theorem k9 : Qc Tryz.prog 9 c9 = true := by kernel_rfl
theorem k10 : Qc Tryz.prog 10 c10 = true := by kernel_rfl
theorem k11 : Qc Tryz.prog 11 c11 = true := by kernel_rfl
theorem k12 : Qc Tryz.prog 12 c12 = true := by kernel_rfl
theorem k13 : Qc Tryz.prog 13 c13 = true := by kernel_rfl
theorem k14 : Qc Tryz.prog 14 c14 = true := by kernel_rfl
theorem k15 : Qc Tryz.prog 15 c15 = true := by kernel_rfl
theorem k22 : Qc Tryz.prog 22 c22 = true := by kernel_rfl
theorem k23 : Qc Tryz.prog 23 c23 = true := by kernel_rfl
theorem k24 : Qc Tryz.prog 24 c24 = true := by kernel_rfl
theorem k25 : Qc Tryz.prog 25 c25 = true := by kernel_rfl
theorem k26 : Qc Tryz.prog 26 c26 = true := by kernel_rfl
theorem k27 : Qc Tryz.prog 27 c27 = true := by kernel_rfl
theorem k28 : Qc Tryz.prog 28 c28 = true := by kernel_rfl
theorem k29 : Qc Tryz.prog 29 c29 = true := by kernel_rfl
theorem k30 : Qc Tryz.prog 30 c30 = true := by kernel_rfl
theorem k31 : Qc Tryz.prog 31 c31 = true := by kernel_rfl
theorem k33 : Qc Tryz.prog 33 c33 = true := by kernel_rfl
theorem k34 : Qc Tryz.prog 34 c34 = true := by kernel_rfl
theorem k35 : Qc Tryz.prog 35 c35 = true := by kernel_rfl
theorem k36 : Qc Tryz.prog 36 c36 = true := by kernel_rfl
theorem k37 : Qc Tryz.prog 37 c37 = true := by kernel_rfl
theorem k38 : Qc Tryz.prog 38 c38 = true := by kernel_rfl
theorem k39 : Qc Tryz.prog 39 c39 = true := by kernel_rfl
theorem k40 : Qc Tryz.prog 40 c40 = true := by kernel_rfl
theorem k41 : Qc Tryz.prog 41 c41 = true := by kernel_rfl
theorem k42 : Qc Tryz.prog 42 c42 = true := by kernel_rfl
theorem k43 : Qc Tryz.prog 43 c43 = true := by kernel_rfl
end
end Go.Av
namespace Go.Av
noncomputable section
open Go.Proofs
set_option maxRecDepth 100000
theorem k47 : Qc Tryz.prog 47 c47 = true := by kernel_rfl
theorem k48 : Qc Tryz.prog 48 c48 = true := by kernel_rfl
theorem k49 : Qc Tryz.prog 49 c49 = true := by kernel_rfl
theorem k51 : Qc Tryz.prog 51 c51 = true := by kernel_rfl
theorem k52 : Qc Tryz.prog 52 c52 = true := by kernel_rfl
theorem k53 : Qc Tryz.prog 53 c53 = true := by kernel_rfl
theorem k54 : Qc Tryz.prog 54 c54 = true := by kernel_rfl
theorem k55 : Qc Tryz.prog 55 c55 = true := by kernel_rfl
theorem k56 : Qc Tryz.prog 56 c56 = true := by kernel_rfl
theorem k57 : Qc Tryz.prog 57 c57 = true := by kernel_rfl
theorem k58 : Qc Tryz.prog 58 c58 = true := by kernel_rfl
theorem k61 : Qc Tryz.prog 61 c61 = true := by kernel_rfl
theorem k62 : Qc Tryz.prog 62 c62 = true := by kernel_rfl
theorem k63 : Qc Tryz.prog 63 c63 = true := by kernel_rfl
theorem k64 : Qc Tryz.prog 64 c64 = true := by kernel_rfl
theorem k65 : Qc Tryz.prog 65 c65 = true := by kernel_rfl
theorem k66 : Qc Tryz.prog 66 c66 = true := by kernel_rfl
theorem k67 : Qc Tryz.prog 67 c67 = true := by kernel_rfl
theorem k68 : Qc Tryz.prog 68 c68 = true := by kernel_rfl
theorem k69 : Qc Tryz.prog 69 c69 = true := by kernel_rfl
theorem k70 : Qc Tryz.prog 70 c70 = true := by kernel_rfl
theorem k71 : Qc Tryz.prog 71 c71 = true := by kernel_rfl
theorem k72 : Qc Tryz.prog 72 c72 = true := by kernel_rfl
end
end Go.Av
namespace Go.Av
noncomputable section
open Go.Proofs
set_option maxRecDepth 100000
theorem k75 : Qc Tryz.prog 75 c75 = true := by kernel_rfl
theorem k76 : Qc Tryz.prog 76 c76 = true := by kernel_rfl
theorem k77 : Qc Tryz.prog 77 c77 = true := by kernel_rfl
theorem k78 : Qc Tryz.prog 78 c78 = true := by kernel_rfl
theorem k79 : Qc Tryz.prog 79 c79 = true := by kernel_rfl
theorem k80 : Qc Tryz.prog 80 c80 = true := by kernel_rfl
theorem k81 : Qc Tryz.prog 81 c81 = true := by kernel_rfl
theorem k82 : Qc Tryz.prog 82 c82 = true := by kernel_rfl
theorem k83 : Qc Tryz.prog 83 c83 = true := by kernel_rfl
theorem k84 : Qc Tryz.prog 84 c84 = true := by kernel_rfl
theorem k85 : Qc Tryz.prog 85 c85 = true := by kernel_rfl
theorem k87 : Qc Tryz.prog 87 c87 = true := by kernel_rfl
theorem k88 : Qc Tryz.prog 88 c88 = true := by kernel_rfl
theorem k89 : Qc Tryz.prog 89 c89 = true := by kernel_rfl
theorem k90 : Qc Tryz.prog 90 c90 = true := by kernel_rfl
theorem k91 : Qc Tryz.prog 91 c91 = true := by kernel_rfl
theorem k92 : Qc Tryz.prog 92 c92 = true := by kernel_rfl
theorem k93 : Qc Tryz.prog 93 c93 = true := by kernel_rfl
theorem k94 : Qc Tryz.prog 94 c94 = true := by kernel_rfl
theorem k95 : Qc Tryz.prog 95 c95 = true := by kernel_rfl
theorem k96 : Qc Tryz.prog 96 c96 = true := by kernel_rfl
theorem k97 : Qc Tryz.prog 97 c97 = true := by kernel_rfl
theorem k98 : Qc Tryz.prog 98 c98 = true := by kernel_rfl
theorem k99 : Qc Tryz.prog 99 c99 = true := by kernel_rfl
theorem Qlo : Qc Tryz.prog 102 Qw8 = true := by kernel_rfl
theorem Qwo : Qc Tryz.prog 103 Qvv = true := by kernel_rfl
theorem Qx2 : Qc Tryz.prog 104 Qvt = true := by kernel_rfl
theorem Qx1 : Qc Tryz.prog 105 Qw5 = true := by kernel_rfl
theorem Qwt : Qc Tryz.prog 106 Qw2 = true := by kernel_rfl
theorem Qx4 : Qc Tryz.prog 107 Qwe = true := by kernel_rfl
theorem Qwy : Qc Tryz.prog 108 Qw6 = true := by kernel_rfl
theorem Qxb : Qc Tryz.prog 109 Qo9 = true := by kernel_rfl
theorem Qxd : Qc Tryz.prog 110 Qod = true := by kernel_rfl
theorem Qwv : Qc Tryz.prog 111 Qof = true := by kernel_rfl
theorem Qwz : Qc Tryz.prog 112 Qoa = true := by kernel_rfl
end
end Go.Av
namespace Go.Av
noncomputable section
open Go.Proofs
set_option maxRecDepth 100000
theorem Qwh : Qc Tryz.prog 115 Qw9 = true := by kernel_rfl
theorem Qwi : Qc Tryz.prog 116 Qw3 = true := by kernel_rfl
theorem Qwx : Qc Tryz.prog 117 Qvu = true := by kernel_rfl
theorem Qwg : Qc Tryz.prog 128 Qvy = true := by kernel_rfl
end
end Go.Av

