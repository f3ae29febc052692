/- The law. Part of a proof of a given statement: for every input the law returns true and the arguments read as before; no condition beyond the given row. -/
import Derived.Test.YtkemhhfbpniioaaGreatDoorCode1
import Derived.Test.YtkemhhfbpniioaaGreatDoorAvChk
import Derived.KernelRfl
import Derived.Test.YtkemhhfbpniioaaGreatDoorProg
namespace Go.Av
noncomputable section
open Go.Proofs
set_option maxRecDepth 100000
theorem k3 : Q7 Tryz.prog 3 c3 = true := by kernel_rfl
theorem k4 : Q7 Tryz.prog 4 c4 = true := by kernel_rfl
theorem k5 : Q7 Tryz.prog 5 c5 = true := by kernel_rfl
theorem k6 : Q7 Tryz.prog 6 c6 = true := by kernel_rfl
theorem k7 : Q7 Tryz.prog 7 c7 = true := by kernel_rfl
theorem k12 : Q7 Tryz.prog 12 c12 = true := by kernel_rfl
theorem k13 : Q7 Tryz.prog 13 c13 = true := by kernel_rfl
theorem k14 : Q7 Tryz.prog 14 c14 = true := by kernel_rfl
theorem k15 : Q7 Tryz.prog 15 c15 = true := by kernel_rfl
theorem k16 : Q7 Tryz.prog 16 c16 = true := by kernel_rfl
theorem k17 : Q7 Tryz.prog 17 c17 = true := by kernel_rfl
theorem k18 : Q7 Tryz.prog 18 c18 = true := by kernel_rfl
theorem k19 : Q7 Tryz.prog 19 c19 = true := by kernel_rfl
theorem k20 : Q7 Tryz.prog 20 c20 = true := by kernel_rfl
end
end Go.Av
namespace Go.Av
noncomputable section
open Go.Proofs
set_option maxRecDepth 100000
theorem k21 : Q7 Tryz.prog 21 c21 = true := by kernel_rfl
theorem k22 : Q7 Tryz.prog 22 c22 = true := by kernel_rfl
theorem k23 : Q7 Tryz.prog 23 c23 = true := by kernel_rfl
theorem k25 : Q7 Tryz.prog 25 c25 = true := by kernel_rfl
theorem k27 : Q7 Tryz.prog 27 c27 = true := by kernel_rfl
theorem k29 : Q7 Tryz.prog 29 c29 = true := by kernel_rfl
theorem k30 : Q7 Tryz.prog 30 c30 = true := by kernel_rfl
theorem k31 : Q7 Tryz.prog 31 c31 = true := by kernel_rfl
theorem k32 : Q7 Tryz.prog 32 c32 = true := by kernel_rfl
theorem k33 : Q7 Tryz.prog 33 c33 = true := by kernel_rfl
theorem k34 : Q7 Tryz.prog 34 c34 = true := by kernel_rfl
theorem k35 : Q7 Tryz.prog 35 c35 = true := by kernel_rfl
theorem k39 : Q7 Tryz.prog 39 c39 = true := by kernel_rfl
theorem k49 : Q7 Tryz.prog 49 c49 = true := by kernel_rfl
theorem k53 : Q7 Tryz.prog 53 c53 = true := by kernel_rfl
theorem k54 : Q7 Tryz.prog 54 c54 = true := by kernel_rfl
theorem k55 : Q7 Tryz.prog 55 c55 = true := by kernel_rfl
theorem k56 : Q7 Tryz.prog 56 c56 = true := by kernel_rfl
theorem k57 : Q7 Tryz.prog 57 c57 = true := by kernel_rfl
theorem k58 : Q7 Tryz.prog 58 c58 = true := by kernel_rfl
theorem k59 : Q7 Tryz.prog 59 c59 = true := by kernel_rfl
end
end Go.Av
namespace Go.Av
noncomputable section
open Go.Proofs
set_option maxRecDepth 100000
theorem k60 : Q7 Tryz.prog 60 c60 = true := by kernel_rfl
theorem k61 : Q7 Tryz.prog 61 c61 = true := by kernel_rfl
theorem k62 : Q7 Tryz.prog 62 c62 = true := by kernel_rfl
theorem k63 : Q7 Tryz.prog 63 c63 = true := by kernel_rfl
theorem k64 : Q7 Tryz.prog 64 c64 = true := by kernel_rfl
theorem k65 : Q7 Tryz.prog 65 c65 = true := by kernel_rfl
theorem k66 : Q7 Tryz.prog 66 c66 = true := by kernel_rfl
theorem k67 : Q7 Tryz.prog 67 c67 = true := by kernel_rfl
theorem k68 : Q7 Tryz.prog 68 c68 = true := by kernel_rfl
theorem k72 : Q7 Tryz.prog 72 c72 = true := by kernel_rfl
theorem k73 : Q7 Tryz.prog 73 c73 = true := by kernel_rfl
theorem k74 : Q7 Tryz.prog 74 c74 = true := by kernel_rfl
theorem k75 : Q7 Tryz.prog 75 c75 = true := by kernel_rfl
theorem k76 : Q7 Tryz.prog 76 c76 = true := by kernel_rfl
theorem k78 : Q7 Tryz.prog 78 c78 = true := by kernel_rfl
theorem k82 : Q7 Tryz.prog 82 c82 = true := by kernel_rfl
theorem k83 : Q7 Tryz.prog 83 c83 = true := by kernel_rfl
theorem k84 : Q7 Tryz.prog 84 c84 = true := by kernel_rfl
theorem k85 : Q7 Tryz.prog 85 c85 = true := by kernel_rfl
theorem k86 : Q7 Tryz.prog 86 c86 = true := by kernel_rfl
theorem k87 : Q7 Tryz.prog 87 c87 = true := by kernel_rfl
theorem k88 : Q7 Tryz.prog 88 c88 = true := by kernel_rfl
theorem k89 : Q7 Tryz.prog 89 c89 = true := by kernel_rfl
theorem k90 : Q7 Tryz.prog 90 c90 = true := by kernel_rfl
theorem k91 : Q7 Tryz.prog 91 c91 = true := by kernel_rfl
theorem k92 : Q7 Tryz.prog 92 c92 = true := by kernel_rfl
theorem k93 : Q7 Tryz.prog 93 c93 = true := by kernel_rfl
theorem k94 : Q7 Tryz.prog 94 c94 = true := by kernel_rfl
theorem k95 : Q7 Tryz.prog 95 c95 = true := by kernel_rfl
theorem k96 : Q7 Tryz.prog 96 c96 = true := by kernel_rfl
theorem k97 : Q7 Tryz.prog 97 c97 = true := by kernel_rfl
theorem k98 : Q7 Tryz.prog 98 c98 = true := by kernel_rfl
end
end Go.Av
namespace Go.Av
noncomputable section
open Go.Proofs
set_option maxRecDepth 100000
theorem k99 : Q7 Tryz.prog 99 c99 = true := by kernel_rfl
theorem Qz0 : Q7 Tryz.prog 100 Qyi = true := by kernel_rfl
theorem Qm8 : Q7 Tryz.prog 102 Qy5 = true := by kernel_rfl
theorem Z09 : Q7 Tryz.prog 103 Qxl = true := by kernel_rfl
theorem Qyq : Q7 Tryz.prog 104 Qy7 = true := by kernel_rfl
theorem Z0o : Q7 Tryz.prog 105 Qxc = true := by kernel_rfl
theorem Qyj : Q7 Tryz.prog 106 Qyd = true := by kernel_rfl
theorem Qzh : Q7 Tryz.prog 107 Qxi = true := by kernel_rfl
theorem Qz7 : Q7 Tryz.prog 108 Qwu = true := by kernel_rfl
theorem Z07 : Q7 Tryz.prog 109 Qwz = true := by kernel_rfl
theorem Qz1 : Q7 Tryz.prog 110 Qy9 = true := by kernel_rfl
theorem Z00 : Q7 Tryz.prog 111 Qya = true := by kernel_rfl
theorem Qyk : Q7 Tryz.prog 112 Qy1 = true := by kernel_rfl
theorem Qzy : Q7 Tryz.prog 113 Qyh = true := by kernel_rfl
theorem Qza : Q7 Tryz.prog 114 Qx2 = true := by kernel_rfl
theorem Z0u : Q7 Tryz.prog 115 Qy6 = true := by kernel_rfl
theorem Qyz : Q7 Tryz.prog 116 Qwx = true := by kernel_rfl
theorem Qyw : Q7 Tryz.prog 117 Qx0 = true := by kernel_rfl
theorem Z0e : Q7 Tryz.prog 118 Qxr = true := by kernel_rfl
theorem Qzk : Q7 Tryz.prog 119 Qxg = true := by kernel_rfl
theorem Qz2 : Q7 Tryz.prog 120 Qx3 = true := by kernel_rfl
theorem Z0f : Q7 Tryz.prog 121 Qxu = true := by kernel_rfl
theorem Qzl : Q7 Tryz.prog 122 Qx7 = true := by kernel_rfl
theorem Qzb : Q7 Tryz.prog 123 Qx8 = true := by kernel_rfl
theorem Qyt : Q7 Tryz.prog 124 Qx6 = true := by kernel_rfl
theorem Qzg : Q7 Tryz.prog 125 Qx5 = true := by kernel_rfl
theorem Qz4 : Q7 Tryz.prog 126 Qy2 = true := by kernel_rfl
theorem Qz6 : Q7 Tryz.prog 128 Qy0 = true := by kernel_rfl
theorem Qz9 : Q7 Tryz.prog 129 Qww = true := by kernel_rfl
theorem Qyv : Q7 Tryz.prog 130 Qx1 = true := by kernel_rfl
theorem Qzr : Q7 Tryz.prog 131 Qxz = true := by kernel_rfl
theorem Qzo : Q7 Tryz.prog 132 Qxt = true := by kernel_rfl
end
end Go.Av
namespace Go.Av
noncomputable section
open Go.Proofs
set_option maxRecDepth 100000
theorem Z0n : Q7 Tryz.prog 133 Qxd = true := by kernel_rfl
theorem Qyy : Q7 Tryz.prog 134 Qyb = true := by kernel_rfl
theorem Qyp : Q7 Tryz.prog 135 Qxq = true := by kernel_rfl
theorem Qzw : Q7 Tryz.prog 136 Qxj = true := by kernel_rfl
theorem Z0g : Q7 Tryz.prog 137 Qye = true := by kernel_rfl
theorem Z0t : Q7 Tryz.prog 138 Qxe = true := by kernel_rfl
theorem Qys : Q7 Tryz.prog 141 Qxh = true := by kernel_rfl
theorem Qw1 : Q7 Tryz.prog 142 Qxp = true := by kernel_rfl
theorem Z01 : Q7 Tryz.prog 143 Qwt = true := by kernel_rfl
theorem Z0h : Q7 Tryz.prog 144 Qy4 = true := by kernel_rfl
theorem Qyx : Q7 Tryz.prog 145 Qxx = true := by kernel_rfl
theorem Qzc : Q7 Tryz.prog 146 Qy3 = true := by kernel_rfl
theorem Qzz : Q7 Tryz.prog 147 Qyg = true := by kernel_rfl
theorem Z03 : Q7 Tryz.prog 148 Qxn = true := by kernel_rfl
theorem Qul : Q7 Tryz.prog 149 Qx9 = true := by kernel_rfl
theorem Qzx : Q7 Tryz.prog 153 Qxa = true := by kernel_rfl
theorem Qyo : Q7 Tryz.prog 154 Qyf = true := by kernel_rfl
theorem Qym : Q7 Tryz.prog 155 Qwy = true := by kernel_rfl
theorem Z0r : Q7 Tryz.prog 157 Qyc = true := by kernel_rfl
theorem Z0c : Q7 Tryz.prog 158 Qxk = true := by kernel_rfl
theorem Z0b : Q7 Tryz.prog 159 Qpe = true := by kernel_rfl
end
end Go.Av
namespace Go.Av
noncomputable section
open Go.Proofs
set_option maxRecDepth 100000
end
end Go.Av

