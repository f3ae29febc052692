/- The law. Part of a proof of a given statement: for every input the law returns true and the arguments read as before; no condition beyond the given row. -/
import Derived.Test.YtkemhhfbpniioaaGreatDoorCode1
import Derived.Test.YtkemhhfbpniioaaGreatDoorAvChk
import Derived.KernelRfl
import Derived.Test.YtkemhhfbpniioaaGreatDoorProg
namespace Go.Av
noncomputable section
open Go.Proofs
set_option maxRecDepth 100000
theorem k3 : Q8 Tryz.prog 3 c3 = true := by kernel_rfl
theorem k4 : Q8 Tryz.prog 4 c4 = true := by kernel_rfl
theorem k5 : Q8 Tryz.prog 5 c5 = true := by kernel_rfl
theorem k6 : Q8 Tryz.prog 6 c6 = true := by kernel_rfl
theorem k7 : Q8 Tryz.prog 7 c7 = true := by kernel_rfl
theorem k11 : Q8 Tryz.prog 11 c11 = true := by kernel_rfl
theorem k17 : Q8 Tryz.prog 17 c17 = true := by kernel_rfl
theorem k19 : Q8 Tryz.prog 19 c19 = true := by kernel_rfl
theorem k20 : Q8 Tryz.prog 20 c20 = true := by kernel_rfl
end
end Go.Av
namespace Go.Av
noncomputable section
open Go.Proofs
set_option maxRecDepth 100000
theorem k21 : Q8 Tryz.prog 21 c21 = true := by kernel_rfl
theorem k22 : Q8 Tryz.prog 22 c22 = true := by kernel_rfl
theorem k24 : Q8 Tryz.prog 24 c24 = true := by kernel_rfl
theorem k25 : Q8 Tryz.prog 25 c25 = true := by kernel_rfl
theorem k26 : Q8 Tryz.prog 26 c26 = true := by kernel_rfl
theorem k33 : Q8 Tryz.prog 33 c33 = true := by kernel_rfl
theorem k34 : Q8 Tryz.prog 34 c34 = true := by kernel_rfl
theorem k36 : Q8 Tryz.prog 36 c36 = true := by kernel_rfl
theorem k37 : Q8 Tryz.prog 37 c37 = true := by kernel_rfl
theorem k38 : Q8 Tryz.prog 38 c38 = true := by kernel_rfl
theorem k41 : Q8 Tryz.prog 41 c41 = true := by kernel_rfl
theorem k42 : Q8 Tryz.prog 42 c42 = true := by kernel_rfl
theorem k49 : Q8 Tryz.prog 49 c49 = true := by kernel_rfl
end
end Go.Av
namespace Go.Av
noncomputable section
open Go.Proofs
set_option maxRecDepth 100000
theorem k61 : Q8 Tryz.prog 61 c61 = true := by kernel_rfl
theorem k62 : Q8 Tryz.prog 62 c62 = true := by kernel_rfl
theorem k63 : Q8 Tryz.prog 63 c63 = true := by kernel_rfl
theorem k64 : Q8 Tryz.prog 64 c64 = true := by kernel_rfl
theorem k66 : Q8 Tryz.prog 66 c66 = true := by kernel_rfl
theorem k67 : Q8 Tryz.prog 67 c67 = true := by kernel_rfl
theorem k69 : Q8 Tryz.prog 69 c69 = true := by kernel_rfl
theorem k70 : Q8 Tryz.prog 70 c70 = true := by kernel_rfl
theorem k71 : Q8 Tryz.prog 71 c71 = true := by kernel_rfl
theorem k73 : Q8 Tryz.prog 73 c73 = true := by kernel_rfl
theorem k74 : Q8 Tryz.prog 74 c74 = true := by kernel_rfl
theorem k75 : Q8 Tryz.prog 75 c75 = true := by kernel_rfl
theorem k76 : Q8 Tryz.prog 76 c76 = true := by kernel_rfl
theorem k77 : Q8 Tryz.prog 77 c77 = true := by kernel_rfl
theorem k78 : Q8 Tryz.prog 78 c78 = true := by kernel_rfl
theorem k79 : Q8 Tryz.prog 79 c79 = true := by kernel_rfl
theorem k87 : Q8 Tryz.prog 87 c87 = true := by kernel_rfl
theorem k88 : Q8 Tryz.prog 88 c88 = true := by kernel_rfl
theorem k89 : Q8 Tryz.prog 89 c89 = true := by kernel_rfl
theorem k90 : Q8 Tryz.prog 90 c90 = true := by kernel_rfl
theorem k91 : Q8 Tryz.prog 91 c91 = true := by kernel_rfl
theorem k92 : Q8 Tryz.prog 92 c92 = true := by kernel_rfl
theorem k93 : Q8 Tryz.prog 93 c93 = true := by kernel_rfl
theorem k94 : Q8 Tryz.prog 94 c94 = true := by kernel_rfl
theorem k95 : Q8 Tryz.prog 95 c95 = true := by kernel_rfl
theorem k96 : Q8 Tryz.prog 96 c96 = true := by kernel_rfl
end
end Go.Av
namespace Go.Av
noncomputable section
open Go.Proofs
set_option maxRecDepth 100000
theorem Qte : Q8 Tryz.prog 101 Qvb = true := by kernel_rfl
theorem Qw1 : Q8 Tryz.prog 102 Qvc = true := by kernel_rfl
theorem Qxx : Q8 Tryz.prog 106 Qvh = true := by kernel_rfl
theorem Qxy : Q8 Tryz.prog 107 Quk = true := by kernel_rfl
theorem Qwn : Q8 Tryz.prog 109 Qvg = true := by kernel_rfl
theorem Qxg : Q8 Tryz.prog 110 Quq = true := by kernel_rfl
theorem Qxj : Q8 Tryz.prog 111 Qvt = true := by kernel_rfl
theorem Qwf : Q8 Tryz.prog 112 Qvn = true := by kernel_rfl
theorem Qx2 : Q8 Tryz.prog 113 Qun = true := by kernel_rfl
theorem Qww : Q8 Tryz.prog 114 Qvk = true := by kernel_rfl
theorem Qxd : Q8 Tryz.prog 115 Quw = true := by kernel_rfl
theorem Qw3 : Q8 Tryz.prog 116 Qvo = true := by kernel_rfl
theorem Qxe : Q8 Tryz.prog 117 Qvf = true := by kernel_rfl
theorem Qwr : Q8 Tryz.prog 118 Qvw = true := by kernel_rfl
theorem Qxr : Q8 Tryz.prog 124 Quu = true := by kernel_rfl
theorem Qw9 : Q8 Tryz.prog 125 Qvx = true := by kernel_rfl
theorem Qx3 : Q8 Tryz.prog 126 Qv2 = true := by kernel_rfl
theorem Qx1 : Q8 Tryz.prog 128 Qvm = true := by kernel_rfl
theorem Qxz : Q8 Tryz.prog 129 Qv7 = true := by kernel_rfl
theorem Qx5 : Q8 Tryz.prog 130 Qug = true := by kernel_rfl
theorem Qx8 : Q8 Tryz.prog 131 Quf = true := by kernel_rfl
theorem Qxw : Q8 Tryz.prog 132 Qvd = true := by kernel_rfl
end
end Go.Av
namespace Go.Av
noncomputable section
open Go.Proofs
set_option maxRecDepth 100000
theorem Qwe : Q8 Tryz.prog 133 Qv1 = true := by kernel_rfl
theorem Qy2 : Q8 Tryz.prog 134 Qv4 = true := by kernel_rfl
theorem Qxq : Q8 Tryz.prog 135 Qv5 = true := by kernel_rfl
theorem Qy0 : Q8 Tryz.prog 136 Qum = true := by kernel_rfl
theorem Qy3 : Q8 Tryz.prog 137 Qv9 = true := by kernel_rfl
theorem Qxs : Q8 Tryz.prog 138 Qw0 = true := by kernel_rfl
theorem Qtm : Q8 Tryz.prog 142 Quj = true := by kernel_rfl
theorem Qxt : Q8 Tryz.prog 143 Qux = true := by kernel_rfl
theorem Qxk : Q8 Tryz.prog 144 Qvj = true := by kernel_rfl
theorem Qwk : Q8 Tryz.prog 145 Quy = true := by kernel_rfl
theorem Qy1 : Q8 Tryz.prog 146 Qvz = true := by kernel_rfl
theorem Qxm : Q8 Tryz.prog 147 Qul = true := by kernel_rfl
theorem Qwz : Q8 Tryz.prog 148 Qut = true := by kernel_rfl
theorem Qsd : Q8 Tryz.prog 149 Quz = true := by kernel_rfl
theorem Qw7 : Q8 Tryz.prog 153 Qvs = true := by kernel_rfl
theorem Qx0 : Q8 Tryz.prog 154 Qvy = true := by kernel_rfl
theorem Qws : Q8 Tryz.prog 155 Qva = true := by kernel_rfl
theorem Qxi : Q8 Tryz.prog 157 Qui = true := by kernel_rfl
theorem Qwd : Q8 Tryz.prog 158 Qvi = true := by kernel_rfl
theorem Qwv : Q8 Tryz.prog 159 Qn7 = true := by kernel_rfl
end
end Go.Av
namespace Go.Av
noncomputable section
open Go.Proofs
set_option maxRecDepth 100000
end
end Go.Av

