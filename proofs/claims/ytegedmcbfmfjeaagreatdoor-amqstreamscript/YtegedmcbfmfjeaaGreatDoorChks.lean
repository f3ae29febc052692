/- The law. Part of a proof of a given statement: for every input the law returns true and the arguments read as before; no condition beyond the given row. -/
import Derived.Test.YtegedmcbfmfjeaaGreatDoorCode1
import Derived.Test.YtegedmcbfmfjeaaGreatDoorAvChk
import Derived.KernelRfl
import Derived.Test.YtegedmcbfmfjeaaGreatDoorProg
namespace Go.Av
noncomputable section
open Go.Proofs
set_option maxRecDepth 100000
theorem k3 : Qf Tryz.prog 3 c3 = true := by kernel_rfl
theorem k4 : Qf Tryz.prog 4 c4 = true := by kernel_rfl
theorem k5 : Qf Tryz.prog 5 c5 = true := by kernel_rfl
theorem k6 : Qf Tryz.prog 6 c6 = true := by kernel_rfl
theorem k7 : Qf Tryz.prog 7 c7 = true := by kernel_rfl
theorem k10 : Qf Tryz.prog 10 c10 = true := by kernel_rfl
theorem k12 : Qf Tryz.prog 12 c12 = true := by kernel_rfl
theorem k13 : Qf Tryz.prog 13 c13 = true := by kernel_rfl
theorem k14 : Qf Tryz.prog 14 c14 = true := by kernel_rfl
theorem k15 : Qf Tryz.prog 15 c15 = true := by kernel_rfl
theorem k16 : Qf Tryz.prog 16 c16 = true := by kernel_rfl
theorem k17 : Qf Tryz.prog 17 c17 = true := by kernel_rfl
theorem k18 : Qf Tryz.prog 18 c18 = true := by kernel_rfl
theorem k19 : Qf Tryz.prog 19 c19 = true := by kernel_rfl
theorem k20 : Qf Tryz.prog 20 c20 = true := by kernel_rfl
theorem k21 : Qf Tryz.prog 21 c21 = true := by kernel_rfl
theorem k25 : Qf Tryz.prog 25 c25 = true := by kernel_rfl
theorem k26 : Qf Tryz.prog 26 c26 = true := by kernel_rfl
theorem k27 : Qf Tryz.prog 27 c27 = true := by kernel_rfl
theorem k29 : Qf Tryz.prog 29 c29 = true := by kernel_rfl
theorem k30 : Qf Tryz.prog 30 c30 = true := by kernel_rfl
theorem k31 : Qf Tryz.prog 31 c31 = true := by kernel_rfl
theorem k32 : Qf Tryz.prog 32 c32 = true := by kernel_rfl
theorem k38 : Qf Tryz.prog 38 c38 = true := by kernel_rfl
theorem k39 : Qf Tryz.prog 39 c39 = true := by kernel_rfl
theorem k40 : Qf Tryz.prog 40 c40 = true := by kernel_rfl
theorem k41 : Qf Tryz.prog 41 c41 = true := by kernel_rfl
theorem k42 : Qf Tryz.prog 42 c42 = true := by kernel_rfl
theorem k43 : Qf Tryz.prog 43 c43 = true := by kernel_rfl
end
end Go.Av
namespace Go.Av
noncomputable section
open Go.Proofs
set_option maxRecDepth 100000
theorem k44 : Qf Tryz.prog 44 c44 = true := by kernel_rfl
theorem k45 : Qf Tryz.prog 45 c45 = true := by kernel_rfl
theorem k46 : Qf Tryz.prog 46 c46 = true := by kernel_rfl
theorem k49 : Qf Tryz.prog 49 c49 = true := by kernel_rfl
theorem k50 : Qf Tryz.prog 50 c50 = true := by kernel_rfl
theorem k51 : Qf Tryz.prog 51 c51 = true := by kernel_rfl
theorem k53 : Qf Tryz.prog 53 c53 = true := by kernel_rfl
theorem k57 : Qf Tryz.prog 57 c57 = true := by kernel_rfl
theorem k58 : Qf Tryz.prog 58 c58 = true := by kernel_rfl
theorem k59 : Qf Tryz.prog 59 c59 = true := by kernel_rfl
theorem k60 : Qf Tryz.prog 60 c60 = true := by kernel_rfl
theorem k61 : Qf Tryz.prog 61 c61 = true := by kernel_rfl
theorem k62 : Qf Tryz.prog 62 c62 = true := by kernel_rfl
theorem k63 : Qf Tryz.prog 63 c63 = true := by kernel_rfl
theorem k64 : Qf Tryz.prog 64 c64 = true := by kernel_rfl
theorem k65 : Qf Tryz.prog 65 c65 = true := by kernel_rfl
theorem k70 : Qf Tryz.prog 70 c70 = true := by kernel_rfl
theorem k71 : Qf Tryz.prog 71 c71 = true := by kernel_rfl
theorem k72 : Qf Tryz.prog 72 c72 = true := by kernel_rfl
end
end Go.Av
namespace Go.Av
noncomputable section
open Go.Proofs
set_option maxRecDepth 100000
theorem k73 : Qf Tryz.prog 73 c73 = true := by kernel_rfl
theorem k74 : Qf Tryz.prog 74 c74 = true := by kernel_rfl
theorem k75 : Qf Tryz.prog 75 c75 = true := by kernel_rfl
theorem k76 : Qf Tryz.prog 76 c76 = true := by kernel_rfl
theorem k77 : Qf Tryz.prog 77 c77 = true := by kernel_rfl
theorem k78 : Qf Tryz.prog 78 c78 = true := by kernel_rfl
theorem k79 : Qf Tryz.prog 79 c79 = true := by kernel_rfl
theorem k81 : Qf Tryz.prog 81 c81 = true := by kernel_rfl
theorem k82 : Qf Tryz.prog 82 c82 = true := by kernel_rfl
theorem k83 : Qf Tryz.prog 83 c83 = true := by kernel_rfl
theorem k84 : Qf Tryz.prog 84 c84 = true := by kernel_rfl
theorem k85 : Qf Tryz.prog 85 c85 = true := by kernel_rfl
theorem k87 : Qf Tryz.prog 87 c87 = true := by kernel_rfl
theorem k88 : Qf Tryz.prog 88 c88 = true := by kernel_rfl
theorem k89 : Qf Tryz.prog 89 c89 = true := by kernel_rfl
theorem k90 : Qf Tryz.prog 90 c90 = true := by kernel_rfl
theorem k91 : Qf Tryz.prog 91 c91 = true := by kernel_rfl
theorem k92 : Qf Tryz.prog 92 c92 = true := by kernel_rfl
theorem k93 : Qf Tryz.prog 93 c93 = true := by kernel_rfl
theorem k94 : Qf Tryz.prog 94 c94 = true := by kernel_rfl
theorem k95 : Qf Tryz.prog 95 c95 = true := by kernel_rfl
theorem k96 : Qf Tryz.prog 96 c96 = true := by kernel_rfl
theorem k97 : Qf Tryz.prog 97 c97 = true := by kernel_rfl
theorem k98 : Qf Tryz.prog 98 c98 = true := by kernel_rfl
theorem k99 : Qf Tryz.prog 99 c99 = true := by kernel_rfl
theorem Qs4 : Qf Tryz.prog 103 Qr7 = true := by kernel_rfl
theorem Qsh : Qf Tryz.prog 104 Qra = true := by kernel_rfl
theorem Qs3 : Qf Tryz.prog 105 Qrg = true := by kernel_rfl
theorem Qsc : Qf Tryz.prog 106 Qr5 = true := by kernel_rfl
theorem Qrx : Qf Tryz.prog 107 Qr1 = true := by kernel_rfl
theorem Qs8 : Qf Tryz.prog 108 Qrb = true := by kernel_rfl
theorem Qs7 : Qf Tryz.prog 109 Qrd = true := by kernel_rfl
theorem Qru : Qf Tryz.prog 110 Qre = true := by kernel_rfl
theorem Qro : Qf Tryz.prog 111 Qri = true := by kernel_rfl
theorem Qsi : Qf Tryz.prog 112 Qrn = true := by kernel_rfl
end
end Go.Av
namespace Go.Av
noncomputable section
open Go.Proofs
set_option maxRecDepth 100000
theorem Qrt : Qf Tryz.prog 115 Qla = true := by kernel_rfl
theorem Qsn : Qf Tryz.prog 116 Qlo = true := by kernel_rfl
theorem Qrr : Qf Tryz.prog 117 Qku = true := by kernel_rfl
theorem Qs6 : Qf Tryz.prog 128 Qr9 = true := by kernel_rfl
end
end Go.Av

