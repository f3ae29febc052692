/- The law. Part of a proof of a given statement: for every input the law returns true and the arguments read as before; no condition beyond the given row. -/
import Derived.Test.YtkemhhfbpniioaaGreatDoorCode1
import Derived.Test.YtkemhhfbpniioaaGreatDoorAvChk
import Derived.KernelRfl
import Derived.Test.YtkemhhfbpniioaaGreatDoorProg
namespace Go.Av
noncomputable section
open Go.Proofs
set_option maxRecDepth 100000
theorem k3 : Qa Tryz.prog 3 c3 = true := by kernel_rfl
theorem k4 : Qa Tryz.prog 4 c4 = true := by kernel_rfl
theorem k5 : Qa Tryz.prog 5 c5 = true := by kernel_rfl
theorem k6 : Qa Tryz.prog 6 c6 = true := by kernel_rfl
theorem k7 : Qa Tryz.prog 7 c7 = true := by kernel_rfl
theorem k12 : Qa Tryz.prog 12 c12 = true := by kernel_rfl
theorem k13 : Qa Tryz.prog 13 c13 = true := by kernel_rfl
theorem k14 : Qa Tryz.prog 14 c14 = true := by kernel_rfl
theorem k15 : Qa Tryz.prog 15 c15 = true := by kernel_rfl
theorem k16 : Qa Tryz.prog 16 c16 = true := by kernel_rfl
theorem k17 : Qa Tryz.prog 17 c17 = true := by kernel_rfl
theorem k18 : Qa Tryz.prog 18 c18 = true := by kernel_rfl
theorem k19 : Qa Tryz.prog 19 c19 = true := by kernel_rfl
end
end Go.Av
namespace Go.Av
noncomputable section
open Go.Proofs
set_option maxRecDepth 100000
theorem k21 : Qa Tryz.prog 21 c21 = true := by kernel_rfl
theorem k25 : Qa Tryz.prog 25 c25 = true := by kernel_rfl
theorem k30 : Qa Tryz.prog 30 c30 = true := by kernel_rfl
theorem k31 : Qa Tryz.prog 31 c31 = true := by kernel_rfl
theorem k34 : Qa Tryz.prog 34 c34 = true := by kernel_rfl
theorem k39 : Qa Tryz.prog 39 c39 = true := by kernel_rfl
theorem k49 : Qa Tryz.prog 49 c49 = true := by kernel_rfl
theorem k53 : Qa Tryz.prog 53 c53 = true := by kernel_rfl
theorem k54 : Qa Tryz.prog 54 c54 = true := by kernel_rfl
theorem k55 : Qa Tryz.prog 55 c55 = true := by kernel_rfl
theorem k56 : Qa Tryz.prog 56 c56 = true := by kernel_rfl
theorem k57 : Qa Tryz.prog 57 c57 = true := by kernel_rfl
theorem k58 : Qa Tryz.prog 58 c58 = true := by kernel_rfl
theorem k59 : Qa Tryz.prog 59 c59 = true := by kernel_rfl
end
end Go.Av
namespace Go.Av
noncomputable section
open Go.Proofs
set_option maxRecDepth 100000
theorem k60 : Qa Tryz.prog 60 c60 = true := by kernel_rfl
theorem k61 : Qa Tryz.prog 61 c61 = true := by kernel_rfl
theorem k62 : Qa Tryz.prog 62 c62 = true := by kernel_rfl
theorem k63 : Qa Tryz.prog 63 c63 = true := by kernel_rfl
theorem k64 : Qa Tryz.prog 64 c64 = true := by kernel_rfl
theorem k65 : Qa Tryz.prog 65 c65 = true := by kernel_rfl
theorem k74 : Qa Tryz.prog 74 c74 = true := by kernel_rfl
theorem k75 : Qa Tryz.prog 75 c75 = true := by kernel_rfl
theorem k76 : Qa Tryz.prog 76 c76 = true := by kernel_rfl
theorem k82 : Qa Tryz.prog 82 c82 = true := by kernel_rfl
theorem k83 : Qa Tryz.prog 83 c83 = true := by kernel_rfl
theorem k84 : Qa Tryz.prog 84 c84 = true := by kernel_rfl
theorem k85 : Qa Tryz.prog 85 c85 = true := by kernel_rfl
theorem k86 : Qa Tryz.prog 86 c86 = true := by kernel_rfl
theorem k87 : Qa Tryz.prog 87 c87 = true := by kernel_rfl
theorem k88 : Qa Tryz.prog 88 c88 = true := by kernel_rfl
theorem k89 : Qa Tryz.prog 89 c89 = true := by kernel_rfl
theorem k90 : Qa Tryz.prog 90 c90 = true := by kernel_rfl
theorem k91 : Qa Tryz.prog 91 c91 = true := by kernel_rfl
theorem k92 : Qa Tryz.prog 92 c92 = true := by kernel_rfl
theorem k93 : Qa Tryz.prog 93 c93 = true := by kernel_rfl
theorem k94 : Qa Tryz.prog 94 c94 = true := by kernel_rfl
theorem k95 : Qa Tryz.prog 95 c95 = true := by kernel_rfl
theorem k96 : Qa Tryz.prog 96 c96 = true := by kernel_rfl
theorem k97 : Qa Tryz.prog 97 c97 = true := by kernel_rfl
theorem k98 : Qa Tryz.prog 98 c98 = true := by kernel_rfl
end
end Go.Av
namespace Go.Av
noncomputable section
open Go.Proofs
set_option maxRecDepth 100000
theorem Qwi : Qa Tryz.prog 100 Qtk = true := by kernel_rfl
theorem Qvr : Qa Tryz.prog 102 Qte = true := by kernel_rfl
theorem Qvx : Qa Tryz.prog 107 Qtu = true := by kernel_rfl
theorem Qve : Qa Tryz.prog 108 Qu2 = true := by kernel_rfl
theorem Qw9 : Qa Tryz.prog 109 Qtl = true := by kernel_rfl
theorem Qv7 : Qa Tryz.prog 110 Quf = true := by kernel_rfl
theorem Qwf : Qa Tryz.prog 111 Qtp = true := by kernel_rfl
theorem Quu : Qa Tryz.prog 112 Qua = true := by kernel_rfl
theorem Qux : Qa Tryz.prog 113 Quc = true := by kernel_rfl
theorem Qvo : Qa Tryz.prog 114 Qu3 = true := by kernel_rfl
theorem Qvj : Qa Tryz.prog 115 Qtn = true := by kernel_rfl
theorem Qvz : Qa Tryz.prog 116 Qtr = true := by kernel_rfl
theorem Qw4 : Qa Tryz.prog 117 Qts = true := by kernel_rfl
theorem Qvq : Qa Tryz.prog 118 Qu1 = true := by kernel_rfl
theorem Qv4 : Qa Tryz.prog 119 Qu8 = true := by kernel_rfl
theorem Qvs : Qa Tryz.prog 120 Qtf = true := by kernel_rfl
theorem Quw : Qa Tryz.prog 121 Qui = true := by kernel_rfl
theorem Qvb : Qa Tryz.prog 128 Qug = true := by kernel_rfl
theorem Quv : Qa Tryz.prog 129 Qud = true := by kernel_rfl
theorem Qwb : Qa Tryz.prog 130 Qul = true := by kernel_rfl
theorem Qv2 : Qa Tryz.prog 131 Qtq = true := by kernel_rfl
theorem Qvk : Qa Tryz.prog 132 Qtv = true := by kernel_rfl
end
end Go.Av
namespace Go.Av
noncomputable section
open Go.Proofs
set_option maxRecDepth 100000
theorem Qvy : Qa Tryz.prog 133 Quh = true := by kernel_rfl
theorem Qw1 : Qa Tryz.prog 134 Qtt = true := by kernel_rfl
theorem Quq : Qa Tryz.prog 135 Qub = true := by kernel_rfl
theorem Qv5 : Qa Tryz.prog 136 Qu6 = true := by kernel_rfl
theorem Qwc : Qa Tryz.prog 137 Quk = true := by kernel_rfl
theorem Qwd : Qa Tryz.prog 138 Qtm = true := by kernel_rfl
theorem Qv8 : Qa Tryz.prog 141 Qti = true := by kernel_rfl
theorem Qw0 : Qa Tryz.prog 153 Qth = true := by kernel_rfl
theorem Qvc : Qa Tryz.prog 154 Qu7 = true := by kernel_rfl
theorem Quy : Qa Tryz.prog 155 Qu9 = true := by kernel_rfl
theorem Qiq : Qa Tryz.prog 170 Qu4 = true := by kernel_rfl
end
end Go.Av
namespace Go.Av
noncomputable section
open Go.Proofs
set_option maxRecDepth 100000
end
end Go.Av

