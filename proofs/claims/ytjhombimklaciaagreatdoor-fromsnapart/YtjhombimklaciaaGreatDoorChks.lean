/- Part of the proof of FromsnApart: for every input the law returns true; no condition. -/
import Derived.Test.YtjhombimklaciaaGreatDoorCode1
import Derived.Test.YtjhombimklaciaaGreatDoorAvChk
import Derived.KernelRfl
import Derived.Test.YtjhombimklaciaaGreatDoorProg
namespace Go.Av
noncomputable section
open Go.Proofs
set_option maxRecDepth 100000
abbrev cQ := Gf Tryz.prog
theorem k3 : cQ 3 c3 = true := by kernel_rfl
theorem k4 : cQ 4 c4 = true := by kernel_rfl
theorem k5 : cQ 5 c5 = true := by kernel_rfl
theorem k6 : cQ 6 c6 = true := by kernel_rfl
theorem k7 : cQ 7 c7 = true := by kernel_rfl
theorem k8 : cQ 8 c8 = true := by kernel_rfl
theorem k9 : cQ 9 c9 = true := by kernel_rfl
theorem k10 : cQ 10 c10 = true := by kernel_rfl
theorem k11 : cQ 11 c11 = true := by kernel_rfl
theorem k12 : cQ 12 c12 = true := by kernel_rfl
theorem k13 : cQ 13 c13 = true := by kernel_rfl
theorem k14 : cQ 14 c14 = true := by kernel_rfl
theorem k15 : cQ 15 c15 = true := by kernel_rfl
theorem k16 : cQ 16 c16 = true := by kernel_rfl
theorem k17 : cQ 17 c17 = true := by kernel_rfl
theorem k18 : cQ 18 c18 = true := by kernel_rfl
theorem k19 : cQ 19 c19 = true := by kernel_rfl
theorem k20 : cQ 20 c20 = true := by kernel_rfl
theorem k21 : cQ 21 c21 = true := by kernel_rfl
theorem k22 : cQ 22 c22 = true := by kernel_rfl
theorem k23 : cQ 23 c23 = true := by kernel_rfl
theorem k24 : cQ 24 c24 = true := by kernel_rfl
theorem k25 : cQ 25 c25 = true := by kernel_rfl
theorem k26 : cQ 26 c26 = true := by kernel_rfl
theorem k27 : cQ 27 c27 = true := by kernel_rfl
theorem k28 : cQ 28 c28 = true := by kernel_rfl
theorem k29 : cQ 29 c29 = true := by kernel_rfl
theorem k30 : cQ 30 c30 = true := by kernel_rfl
theorem k31 : cQ 31 c31 = true := by kernel_rfl
theorem k32 : cQ 32 c32 = true := by kernel_rfl
theorem k33 : cQ 33 c33 = true := by kernel_rfl
theorem k34 : cQ 34 c34 = true := by kernel_rfl
theorem k35 : cQ 35 c35 = true := by kernel_rfl
theorem k36 : cQ 36 c36 = true := by kernel_rfl
theorem k37 : cQ 37 c37 = true := by kernel_rfl
end
end Go.Av
namespace Go.Av
noncomputable section
open Go.Proofs
set_option maxRecDepth 100000
theorem k38 : cQ 38 c38 = true := by kernel_rfl
theorem k39 : cQ 39 c39 = true := by kernel_rfl
theorem k40 : cQ 40 c40 = true := by kernel_rfl
theorem k41 : cQ 41 c41 = true := by kernel_rfl
theorem k42 : cQ 42 c42 = true := by kernel_rfl
theorem k43 : cQ 43 c43 = true := by kernel_rfl
theorem k44 : cQ 44 c44 = true := by kernel_rfl
theorem k45 : cQ 45 c45 = true := by kernel_rfl
theorem k46 : cQ 46 c46 = true := by kernel_rfl
theorem k47 : cQ 47 c47 = true := by kernel_rfl
theorem k48 : cQ 48 c48 = true := by kernel_rfl
theorem k49 : cQ 49 c49 = true := by kernel_rfl
theorem k50 : cQ 50 c50 = true := by kernel_rfl
theorem k51 : cQ 51 c51 = true := by kernel_rfl
theorem k52 : cQ 52 c52 = true := by kernel_rfl
theorem k53 : cQ 53 c53 = true := by kernel_rfl
theorem k54 : cQ 54 c54 = true := by kernel_rfl
theorem k55 : cQ 55 c55 = true := by kernel_rfl
theorem k56 : cQ 56 c56 = true := by kernel_rfl
theorem k57 : cQ 57 c57 = true := by kernel_rfl
theorem k58 : cQ 58 c58 = true := by kernel_rfl
theorem k59 : cQ 59 c59 = true := by kernel_rfl
theorem k60 : cQ 60 c60 = true := by kernel_rfl
theorem k61 : cQ 61 c61 = true := by kernel_rfl
theorem k62 : cQ 62 c62 = true := by kernel_rfl
theorem k63 : cQ 63 c63 = true := by kernel_rfl
theorem k64 : cQ 64 c64 = true := by kernel_rfl
theorem k65 : cQ 65 c65 = true := by kernel_rfl
theorem k66 : cQ 66 c66 = true := by kernel_rfl
theorem k67 : cQ 67 c67 = true := by kernel_rfl
theorem k68 : cQ 68 c68 = true := by kernel_rfl
theorem k69 : cQ 69 c69 = true := by kernel_rfl
theorem k70 : cQ 70 c70 = true := by kernel_rfl
theorem k71 : cQ 71 c71 = true := by kernel_rfl
theorem k72 : cQ 72 c72 = true := by kernel_rfl
theorem k73 : cQ 73 c73 = true := by kernel_rfl
theorem k74 : cQ 74 c74 = true := by kernel_rfl
theorem k75 : cQ 75 c75 = true := by kernel_rfl
theorem k76 : cQ 76 c76 = true := by kernel_rfl
theorem k77 : cQ 77 c77 = true := by kernel_rfl
theorem k78 : cQ 78 c78 = true := by kernel_rfl
theorem k79 : cQ 79 c79 = true := by kernel_rfl
theorem k80 : cQ 80 c80 = true := by kernel_rfl
theorem k81 : cQ 81 c81 = true := by kernel_rfl
theorem k82 : cQ 82 c82 = true := by kernel_rfl
theorem k84 : cQ 84 c84 = true := by kernel_rfl
theorem k85 : cQ 85 c85 = true := by kernel_rfl
end
end Go.Av
namespace Go.Av
noncomputable section
open Go.Proofs
set_option maxRecDepth 100000
theorem k86 : cQ 86 c86 = true := by kernel_rfl
theorem k87 : cQ 87 c87 = true := by kernel_rfl
theorem k88 : cQ 88 c88 = true := by kernel_rfl
theorem k89 : cQ 89 c89 = true := by kernel_rfl
theorem k90 : cQ 90 c90 = true := by kernel_rfl
theorem k91 : cQ 91 c91 = true := by kernel_rfl
theorem k92 : cQ 92 c92 = true := by kernel_rfl
theorem k93 : cQ 93 c93 = true := by kernel_rfl
theorem k94 : cQ 94 c94 = true := by kernel_rfl
theorem k95 : cQ 95 c95 = true := by kernel_rfl
theorem k96 : cQ 96 c96 = true := by kernel_rfl
theorem k97 : cQ 97 c97 = true := by kernel_rfl
theorem k98 : cQ 98 c98 = true := by kernel_rfl
theorem k99 : cQ 99 c99 = true := by kernel_rfl
theorem Qwn : cQ 100 Qjf = true := by kernel_rfl
theorem Qw8 : cQ 101 Qv8 = true := by kernel_rfl
theorem Qw6 : cQ 102 Quv = true := by kernel_rfl
theorem Qvl : cQ 103 Qvc = true := by kernel_rfl
theorem Qw1 : cQ 104 Qw9 = true := by kernel_rfl
theorem Qvb : cQ 105 Qwe = true := by kernel_rfl
theorem Qvy : cQ 106 Qvn = true := by kernel_rfl
theorem Qo6 : cQ 108 Qvh = true := by kernel_rfl
theorem Qu0 : cQ 109 Qv1 = true := by kernel_rfl
theorem Qw0 : cQ 110 Qwz = true := by kernel_rfl
theorem Qxd : cQ 111 Qx2 = true := by kernel_rfl
theorem Qtn : cQ 112 Qvw = true := by kernel_rfl
theorem Qq4 : cQ 113 Qwp = true := by kernel_rfl
theorem Qwm : cQ 114 Qvp = true := by kernel_rfl
theorem Qws : cQ 115 Qww = true := by kernel_rfl
theorem Qmy : cQ 116 Qvg = true := by kernel_rfl
theorem Qjo : cQ 117 Qwt = true := by kernel_rfl
theorem Qgw : cQ 118 Qwo = true := by kernel_rfl
theorem Qq9 : cQ 119 Qvr = true := by kernel_rfl
theorem Qwi : cQ 120 Qvx = true := by kernel_rfl
theorem Qv5 : cQ 121 Qwa = true := by kernel_rfl
theorem Qxl : cQ 122 Qwh = true := by kernel_rfl
theorem Qv0 : cQ 123 Qwk = true := by kernel_rfl
theorem Qw5 : cQ 124 Qwl = true := by kernel_rfl
theorem Qut : cQ 125 Quz = true := by kernel_rfl
theorem Quu : cQ 126 Qwv = true := by kernel_rfl
theorem Qvk : cQ 127 Qve = true := by kernel_rfl
theorem Qvo : cQ 129 Qwc = true := by kernel_rfl
theorem Qvz : cQ 130 Qvj = true := by kernel_rfl
theorem Qx4 : cQ 131 Qw7 = true := by kernel_rfl
theorem Qxg : cQ 132 Qvi = true := by kernel_rfl
theorem Qxb : cQ 150 Qv2 = true := by kernel_rfl
theorem Qx7 : cQ 152 Qv9 = true := by kernel_rfl
theorem Qxk : cQ 153 Qx1 = true := by kernel_rfl
theorem Qxu : cQ 154 Qvv = true := by kernel_rfl
theorem Qxp : cQ 155 Qvs = true := by kernel_rfl
theorem Qv7 : cQ 158 Qx0 = true := by kernel_rfl
theorem Qw2 : cQ 160 Qwy = true := by kernel_rfl
theorem Que : cQ 161 Qwu = true := by kernel_rfl
theorem Qtw : cQ 162 Qwx = true := by kernel_rfl
theorem Qtr : cQ 163 Qwb = true := by kernel_rfl
theorem Qvm : cQ 165 Qvd = true := by kernel_rfl
theorem Qxn : cQ 166 Qvt = true := by kernel_rfl
end
end Go.Av

