/- The law. Part of a proof of a given statement: for every input the law returns true and the arguments read as before; no condition beyond the given row. -/
import Derived.Test.YtkemhhfbpniioaaGreatDoorCode1
import Derived.Test.YtkemhhfbpniioaaGreatDoorAvChk
import Derived.KernelRfl
import Derived.Test.YtkemhhfbpniioaaGreatDoorProg
namespace Go.Av
noncomputable section
open Go.Proofs
set_option maxRecDepth 100000
theorem k3 : Qc Tryz.prog 3 c3 = true := by kernel_rfl
theorem k4 : Qc Tryz.prog 4 c4 = true := by kernel_rfl
theorem k5 : Qc Tryz.prog 5 c5 = true := by kernel_rfl
theorem k6 : Qc Tryz.prog 6 c6 = true := by kernel_rfl
theorem k7 : Qc Tryz.prog 7 c7 = true := by kernel_rfl
theorem k12 : Qc Tryz.prog 12 c12 = true := by kernel_rfl
theorem k13 : Qc Tryz.prog 13 c13 = true := by kernel_rfl
theorem k17 : Qc Tryz.prog 17 c17 = true := by kernel_rfl
theorem k18 : Qc Tryz.prog 18 c18 = true := by kernel_rfl
theorem k20 : Qc Tryz.prog 20 c20 = true := by kernel_rfl
end
end Go.Av
namespace Go.Av
noncomputable section
open Go.Proofs
set_option maxRecDepth 100000
theorem k21 : Qc Tryz.prog 21 c21 = true := by kernel_rfl
theorem k22 : Qc Tryz.prog 22 c22 = true := by kernel_rfl
theorem k24 : Qc Tryz.prog 24 c24 = true := by kernel_rfl
theorem k25 : Qc Tryz.prog 25 c25 = true := by kernel_rfl
theorem k29 : Qc Tryz.prog 29 c29 = true := by kernel_rfl
theorem k30 : Qc Tryz.prog 30 c30 = true := by kernel_rfl
theorem k31 : Qc Tryz.prog 31 c31 = true := by kernel_rfl
theorem k39 : Qc Tryz.prog 39 c39 = true := by kernel_rfl
theorem k49 : Qc Tryz.prog 49 c49 = true := by kernel_rfl
theorem k53 : Qc Tryz.prog 53 c53 = true := by kernel_rfl
theorem k54 : Qc Tryz.prog 54 c54 = true := by kernel_rfl
theorem k55 : Qc Tryz.prog 55 c55 = true := by kernel_rfl
theorem k56 : Qc Tryz.prog 56 c56 = true := by kernel_rfl
theorem k58 : Qc Tryz.prog 58 c58 = true := by kernel_rfl
end
end Go.Av
namespace Go.Av
noncomputable section
open Go.Proofs
set_option maxRecDepth 100000
theorem k60 : Qc Tryz.prog 60 c60 = true := by kernel_rfl
theorem k61 : Qc Tryz.prog 61 c61 = true := by kernel_rfl
theorem k62 : Qc Tryz.prog 62 c62 = true := by kernel_rfl
theorem k63 : Qc Tryz.prog 63 c63 = true := by kernel_rfl
theorem k64 : Qc Tryz.prog 64 c64 = true := by kernel_rfl
theorem k65 : Qc Tryz.prog 65 c65 = true := by kernel_rfl
theorem k66 : Qc Tryz.prog 66 c66 = true := by kernel_rfl
theorem k73 : Qc Tryz.prog 73 c73 = true := by kernel_rfl
theorem k74 : Qc Tryz.prog 74 c74 = true := by kernel_rfl
theorem k75 : Qc Tryz.prog 75 c75 = true := by kernel_rfl
theorem k78 : Qc Tryz.prog 78 c78 = true := by kernel_rfl
theorem k82 : Qc Tryz.prog 82 c82 = true := by kernel_rfl
theorem k83 : Qc Tryz.prog 83 c83 = true := by kernel_rfl
theorem k84 : Qc Tryz.prog 84 c84 = true := by kernel_rfl
theorem k85 : Qc Tryz.prog 85 c85 = true := by kernel_rfl
theorem k86 : Qc Tryz.prog 86 c86 = true := by kernel_rfl
theorem k87 : Qc Tryz.prog 87 c87 = true := by kernel_rfl
theorem k88 : Qc Tryz.prog 88 c88 = true := by kernel_rfl
theorem k89 : Qc Tryz.prog 89 c89 = true := by kernel_rfl
theorem k90 : Qc Tryz.prog 90 c90 = true := by kernel_rfl
theorem k91 : Qc Tryz.prog 91 c91 = true := by kernel_rfl
theorem k92 : Qc Tryz.prog 92 c92 = true := by kernel_rfl
theorem k93 : Qc Tryz.prog 93 c93 = true := by kernel_rfl
theorem k94 : Qc Tryz.prog 94 c94 = true := by kernel_rfl
theorem k95 : Qc Tryz.prog 95 c95 = true := by kernel_rfl
theorem k96 : Qc Tryz.prog 96 c96 = true := by kernel_rfl
theorem k97 : Qc Tryz.prog 97 c97 = true := by kernel_rfl
theorem k98 : Qc Tryz.prog 98 c98 = true := by kernel_rfl
end
end Go.Av
namespace Go.Av
noncomputable section
open Go.Proofs
set_option maxRecDepth 100000
theorem Qwz : Qc Tryz.prog 100 Qut = true := by kernel_rfl
theorem Qxo : Qc Tryz.prog 102 Qvo = true := by kernel_rfl
theorem Qyf : Qc Tryz.prog 106 Quo = true := by kernel_rfl
theorem Qx8 : Qc Tryz.prog 107 Qvq = true := by kernel_rfl
theorem Qxz : Qc Tryz.prog 108 Qvm = true := by kernel_rfl
theorem Qxb : Qc Tryz.prog 109 Qvu = true := by kernel_rfl
theorem Qy3 : Qc Tryz.prog 110 Quz = true := by kernel_rfl
theorem Qwl : Qc Tryz.prog 111 Qv9 = true := by kernel_rfl
theorem Qwu : Qc Tryz.prog 112 Qw8 = true := by kernel_rfl
theorem Qxd : Qc Tryz.prog 113 Qve = true := by kernel_rfl
theorem Qwm : Qc Tryz.prog 114 Qup = true := by kernel_rfl
theorem Qy7 : Qc Tryz.prog 115 Qv3 = true := by kernel_rfl
theorem Qxg : Qc Tryz.prog 116 Qvf = true := by kernel_rfl
theorem Qwy : Qc Tryz.prog 117 Qvz = true := by kernel_rfl
theorem Qwc : Qc Tryz.prog 118 Qvs = true := by kernel_rfl
theorem Qxs : Qc Tryz.prog 119 Qw7 = true := by kernel_rfl
theorem Qy1 : Qc Tryz.prog 120 Qv8 = true := by kernel_rfl
theorem Qwr : Qc Tryz.prog 121 Qvk = true := by kernel_rfl
theorem Qww : Qc Tryz.prog 124 Qvg = true := by kernel_rfl
theorem Qwq : Qc Tryz.prog 125 Qvh = true := by kernel_rfl
theorem Qxq : Qc Tryz.prog 126 Qw4 = true := by kernel_rfl
theorem Qx4 : Qc Tryz.prog 128 Qv5 = true := by kernel_rfl
theorem Qyd : Qc Tryz.prog 129 Qvy = true := by kernel_rfl
theorem Qy8 : Qc Tryz.prog 130 Qux = true := by kernel_rfl
theorem Qwf : Qc Tryz.prog 131 Qv4 = true := by kernel_rfl
theorem Qyc : Qc Tryz.prog 132 Qv6 = true := by kernel_rfl
end
end Go.Av
namespace Go.Av
noncomputable section
open Go.Proofs
set_option maxRecDepth 100000
theorem Qye : Qc Tryz.prog 133 Qv0 = true := by kernel_rfl
theorem Qxp : Qc Tryz.prog 134 Qw1 = true := by kernel_rfl
theorem Qy4 : Qc Tryz.prog 135 Qva = true := by kernel_rfl
theorem Qx0 : Qc Tryz.prog 136 Qvx = true := by kernel_rfl
theorem Qy2 : Qc Tryz.prog 137 Qv1 = true := by kernel_rfl
theorem Qws : Qc Tryz.prog 138 Qw3 = true := by kernel_rfl
theorem Qwp : Qc Tryz.prog 141 Qvb = true := by kernel_rfl
theorem Qtw : Qc Tryz.prog 142 Quy = true := by kernel_rfl
theorem Qx2 : Qc Tryz.prog 143 Qvr = true := by kernel_rfl
theorem Qxv : Qc Tryz.prog 144 Qw0 = true := by kernel_rfl
theorem Qy5 : Qc Tryz.prog 145 Quu = true := by kernel_rfl
theorem Qxw : Qc Tryz.prog 146 Qur = true := by kernel_rfl
theorem Qwv : Qc Tryz.prog 147 Qvw = true := by kernel_rfl
theorem Qxm : Qc Tryz.prog 148 Quw = true := by kernel_rfl
theorem Qtb : Qc Tryz.prog 149 Qvv = true := by kernel_rfl
theorem Qwg : Qc Tryz.prog 153 Qw6 = true := by kernel_rfl
theorem Qx7 : Qc Tryz.prog 154 Qvc = true := by kernel_rfl
theorem Qwj : Qc Tryz.prog 155 Qw9 = true := by kernel_rfl
theorem Qwh : Qc Tryz.prog 157 Quv = true := by kernel_rfl
theorem Qx5 : Qc Tryz.prog 158 Qvp = true := by kernel_rfl
theorem Qwe : Qc Tryz.prog 159 Qnf = true := by kernel_rfl
end
end Go.Av
namespace Go.Av
noncomputable section
open Go.Proofs
set_option maxRecDepth 100000
end
end Go.Av

