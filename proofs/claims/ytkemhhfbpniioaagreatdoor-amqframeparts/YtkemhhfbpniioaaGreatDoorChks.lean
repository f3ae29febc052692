/- The law. Part of a proof of a given statement: for every input the law returns true and the arguments read as before; no condition beyond the given row. -/
import Derived.Test.YtkemhhfbpniioaaGreatDoorCode1
import Derived.Test.YtkemhhfbpniioaaGreatDoorAvChk
import Derived.KernelRfl
import Derived.Test.YtkemhhfbpniioaaGreatDoorProg
namespace Go.Av
noncomputable section
open Go.Proofs
set_option maxRecDepth 100000
theorem k3 : Q9 Tryz.prog 3 c3 = true := by kernel_rfl
theorem k4 : Q9 Tryz.prog 4 c4 = true := by kernel_rfl
theorem k5 : Q9 Tryz.prog 5 c5 = true := by kernel_rfl
theorem k6 : Q9 Tryz.prog 6 c6 = true := by kernel_rfl
theorem k7 : Q9 Tryz.prog 7 c7 = true := by kernel_rfl
theorem k13 : Q9 Tryz.prog 13 c13 = true := by kernel_rfl
theorem k15 : Q9 Tryz.prog 15 c15 = true := by kernel_rfl
theorem k16 : Q9 Tryz.prog 16 c16 = true := by kernel_rfl
theorem k17 : Q9 Tryz.prog 17 c17 = true := by kernel_rfl
theorem k20 : Q9 Tryz.prog 20 c20 = true := by kernel_rfl
end
end Go.Av
namespace Go.Av
noncomputable section
open Go.Proofs
set_option maxRecDepth 100000
theorem k21 : Q9 Tryz.prog 21 c21 = true := by kernel_rfl
theorem k23 : Q9 Tryz.prog 23 c23 = true := by kernel_rfl
theorem k24 : Q9 Tryz.prog 24 c24 = true := by kernel_rfl
theorem k25 : Q9 Tryz.prog 25 c25 = true := by kernel_rfl
theorem k26 : Q9 Tryz.prog 26 c26 = true := by kernel_rfl
theorem k27 : Q9 Tryz.prog 27 c27 = true := by kernel_rfl
theorem k28 : Q9 Tryz.prog 28 c28 = true := by kernel_rfl
theorem k31 : Q9 Tryz.prog 31 c31 = true := by kernel_rfl
theorem k32 : Q9 Tryz.prog 32 c32 = true := by kernel_rfl
theorem k33 : Q9 Tryz.prog 33 c33 = true := by kernel_rfl
theorem k34 : Q9 Tryz.prog 34 c34 = true := by kernel_rfl
theorem k36 : Q9 Tryz.prog 36 c36 = true := by kernel_rfl
theorem k42 : Q9 Tryz.prog 42 c42 = true := by kernel_rfl
theorem k49 : Q9 Tryz.prog 49 c49 = true := by kernel_rfl
theorem k53 : Q9 Tryz.prog 53 c53 = true := by kernel_rfl
theorem k54 : Q9 Tryz.prog 54 c54 = true := by kernel_rfl
theorem k55 : Q9 Tryz.prog 55 c55 = true := by kernel_rfl
theorem k56 : Q9 Tryz.prog 56 c56 = true := by kernel_rfl
theorem k58 : Q9 Tryz.prog 58 c58 = true := by kernel_rfl
theorem k59 : Q9 Tryz.prog 59 c59 = true := by kernel_rfl
end
end Go.Av
namespace Go.Av
noncomputable section
open Go.Proofs
set_option maxRecDepth 100000
theorem k60 : Q9 Tryz.prog 60 c60 = true := by kernel_rfl
theorem k61 : Q9 Tryz.prog 61 c61 = true := by kernel_rfl
theorem k62 : Q9 Tryz.prog 62 c62 = true := by kernel_rfl
theorem k63 : Q9 Tryz.prog 63 c63 = true := by kernel_rfl
theorem k64 : Q9 Tryz.prog 64 c64 = true := by kernel_rfl
theorem k66 : Q9 Tryz.prog 66 c66 = true := by kernel_rfl
theorem k68 : Q9 Tryz.prog 68 c68 = true := by kernel_rfl
theorem k69 : Q9 Tryz.prog 69 c69 = true := by kernel_rfl
theorem k70 : Q9 Tryz.prog 70 c70 = true := by kernel_rfl
theorem k71 : Q9 Tryz.prog 71 c71 = true := by kernel_rfl
theorem k72 : Q9 Tryz.prog 72 c72 = true := by kernel_rfl
theorem k74 : Q9 Tryz.prog 74 c74 = true := by kernel_rfl
theorem k75 : Q9 Tryz.prog 75 c75 = true := by kernel_rfl
theorem k76 : Q9 Tryz.prog 76 c76 = true := by kernel_rfl
theorem k77 : Q9 Tryz.prog 77 c77 = true := by kernel_rfl
theorem k79 : Q9 Tryz.prog 79 c79 = true := by kernel_rfl
theorem k83 : Q9 Tryz.prog 83 c83 = true := by kernel_rfl
theorem k84 : Q9 Tryz.prog 84 c84 = true := by kernel_rfl
theorem k85 : Q9 Tryz.prog 85 c85 = true := by kernel_rfl
theorem k86 : Q9 Tryz.prog 86 c86 = true := by kernel_rfl
theorem k87 : Q9 Tryz.prog 87 c87 = true := by kernel_rfl
theorem k88 : Q9 Tryz.prog 88 c88 = true := by kernel_rfl
theorem k89 : Q9 Tryz.prog 89 c89 = true := by kernel_rfl
theorem k90 : Q9 Tryz.prog 90 c90 = true := by kernel_rfl
theorem k91 : Q9 Tryz.prog 91 c91 = true := by kernel_rfl
theorem k92 : Q9 Tryz.prog 92 c92 = true := by kernel_rfl
theorem k93 : Q9 Tryz.prog 93 c93 = true := by kernel_rfl
theorem k94 : Q9 Tryz.prog 94 c94 = true := by kernel_rfl
theorem k95 : Q9 Tryz.prog 95 c95 = true := by kernel_rfl
theorem k96 : Q9 Tryz.prog 96 c96 = true := by kernel_rfl
end
end Go.Av
namespace Go.Av
noncomputable section
open Go.Proofs
set_option maxRecDepth 100000
theorem k99 : Q9 Tryz.prog 99 c99 = true := by kernel_rfl
theorem Qw5 : Q9 Tryz.prog 100 Quh = true := by kernel_rfl
theorem Qsy : Q9 Tryz.prog 101 Qug = true := by kernel_rfl
theorem Qje : Q9 Tryz.prog 102 Qtt = true := by kernel_rfl
theorem Qwv : Q9 Tryz.prog 103 Quz = true := by kernel_rfl
theorem Qvn : Q9 Tryz.prog 104 Qtx = true := by kernel_rfl
theorem Qx1 : Q9 Tryz.prog 105 Quu = true := by kernel_rfl
theorem Qwg : Q9 Tryz.prog 107 Quc = true := by kernel_rfl
theorem Qvb : Q9 Tryz.prog 108 Qv2 = true := by kernel_rfl
theorem Qwo : Q9 Tryz.prog 109 Qu7 = true := by kernel_rfl
theorem Qvl : Q9 Tryz.prog 110 Quf = true := by kernel_rfl
theorem Qwr : Q9 Tryz.prog 111 Qua = true := by kernel_rfl
theorem Qv8 : Q9 Tryz.prog 112 Qtr = true := by kernel_rfl
theorem Qvh : Q9 Tryz.prog 113 Qud = true := by kernel_rfl
theorem Qwn : Q9 Tryz.prog 114 Qu2 = true := by kernel_rfl
theorem Qwi : Q9 Tryz.prog 115 Qui = true := by kernel_rfl
theorem Qx0 : Q9 Tryz.prog 116 Qu1 = true := by kernel_rfl
theorem Qvk : Q9 Tryz.prog 117 Qub = true := by kernel_rfl
theorem Qvo : Q9 Tryz.prog 118 Qtq = true := by kernel_rfl
theorem Qwp : Q9 Tryz.prog 121 Qts = true := by kernel_rfl
theorem Qve : Q9 Tryz.prog 122 Qtv = true := by kernel_rfl
theorem Qvi : Q9 Tryz.prog 123 Qtw = true := by kernel_rfl
theorem Qvw : Q9 Tryz.prog 128 Qtu = true := by kernel_rfl
theorem Qvt : Q9 Tryz.prog 129 Qu0 = true := by kernel_rfl
theorem Qva : Q9 Tryz.prog 130 Qu6 = true := by kernel_rfl
theorem Qvx : Q9 Tryz.prog 131 Qux = true := by kernel_rfl
theorem Qw9 : Q9 Tryz.prog 132 Qun = true := by kernel_rfl
end
end Go.Av
namespace Go.Av
noncomputable section
open Go.Proofs
set_option maxRecDepth 100000
theorem Qvc : Q9 Tryz.prog 133 Quw = true := by kernel_rfl
theorem Qwx : Q9 Tryz.prog 134 Qut = true := by kernel_rfl
theorem Qv7 : Q9 Tryz.prog 135 Qup = true := by kernel_rfl
theorem Qv6 : Q9 Tryz.prog 136 Quy = true := by kernel_rfl
theorem Qvf : Q9 Tryz.prog 137 Quj = true := by kernel_rfl
theorem Qwj : Q9 Tryz.prog 138 Qur = true := by kernel_rfl
theorem Qww : Q9 Tryz.prog 141 Qu9 = true := by kernel_rfl
theorem Qwy : Q9 Tryz.prog 153 Quq = true := by kernel_rfl
theorem Qwa : Q9 Tryz.prog 154 Qus = true := by kernel_rfl
theorem Qvu : Q9 Tryz.prog 155 Qul = true := by kernel_rfl
end
end Go.Av
namespace Go.Av
noncomputable section
open Go.Proofs
set_option maxRecDepth 100000
end
end Go.Av

