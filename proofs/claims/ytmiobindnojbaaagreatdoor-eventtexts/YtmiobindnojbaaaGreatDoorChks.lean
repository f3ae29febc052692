/- The law. Part of a proof of a given statement: for every input the law returns true and the arguments read as before; no condition beyond the given row. -/
import Derived.Test.YtmiobindnojbaaaGreatDoorCode1
import Derived.Test.YtmiobindnojbaaaGreatDoorAvChk
import Derived.KernelRfl
import Derived.Test.YtmiobindnojbaaaGreatDoorProg
namespace Go.Av
noncomputable section
open Go.Proofs
set_option maxRecDepth 100000
theorem k3 : Q0 Tryz.prog 3 c3 = true := by kernel_rfl
theorem k4 : Q0 Tryz.prog 4 c4 = true := by kernel_rfl
theorem k5 : Q0 Tryz.prog 5 c5 = true := by kernel_rfl
theorem k6 : Q0 Tryz.prog 6 c6 = true := by kernel_rfl
theorem k7 : Q0 Tryz.prog 7 c7 = true := by kernel_rfl
theorem k8 : Q0 Tryz.prog 8 c8 = true := by kernel_rfl
theorem k9 : Q0 Tryz.prog 9 c9 = true := by kernel_rfl
theorem k10 : Q0 Tryz.prog 10 c10 = true := by kernel_rfl
theorem k11 : Q0 Tryz.prog 11 c11 = true := by kernel_rfl
theorem k12 : Q0 Tryz.prog 12 c12 = true := by kernel_rfl
theorem k13 : Q0 Tryz.prog 13 c13 = true := by kernel_rfl
theorem k14 : Q0 Tryz.prog 14 c14 = true := by kernel_rfl
theorem k15 : Q0 Tryz.prog 15 c15 = true := by kernel_rfl
theorem k16 : Q0 Tryz.prog 16 c16 = true := by kernel_rfl
theorem k17 : Q0 Tryz.prog 17 c17 = true := by kernel_rfl
theorem k18 : Q0 Tryz.prog 18 c18 = true := by kernel_rfl
theorem k19 : Q0 Tryz.prog 19 c19 = true := by kernel_rfl
theorem k20 : Q0 Tryz.prog 20 c20 = true := by kernel_rfl
theorem k21 : Q0 Tryz.prog 21 c21 = true := by kernel_rfl
theorem k22 : Q0 Tryz.prog 22 c22 = true := by kernel_rfl
theorem k23 : Q0 Tryz.prog 23 c23 = true := by kernel_rfl
theorem k24 : Q0 Tryz.prog 24 c24 = true := by kernel_rfl
theorem k25 : Q0 Tryz.prog 25 c25 = true := by kernel_rfl
theorem k26 : Q0 Tryz.prog 26 c26 = true := by kernel_rfl
theorem k27 : Q0 Tryz.prog 27 c27 = true := by kernel_rfl
theorem k28 : Q0 Tryz.prog 28 c28 = true := by kernel_rfl
theorem k29 : Q0 Tryz.prog 29 c29 = true := by kernel_rfl
theorem k30 : Q0 Tryz.prog 30 c30 = true := by kernel_rfl
theorem k31 : Q0 Tryz.prog 31 c31 = true := by kernel_rfl
theorem k32 : Q0 Tryz.prog 32 c32 = true := by kernel_rfl
theorem k33 : Q0 Tryz.prog 33 c33 = true := by kernel_rfl
theorem k34 : Q0 Tryz.prog 34 c34 = true := by kernel_rfl
theorem k35 : Q0 Tryz.prog 35 c35 = true := by kernel_rfl
theorem k36 : Q0 Tryz.prog 36 c36 = true := by kernel_rfl
theorem k37 : Q0 Tryz.prog 37 c37 = true := by kernel_rfl
theorem k38 : Q0 Tryz.prog 38 c38 = true := by kernel_rfl
theorem k39 : Q0 Tryz.prog 39 c39 = true := by kernel_rfl
theorem k40 : Q0 Tryz.prog 40 c40 = true := by kernel_rfl
theorem k41 : Q0 Tryz.prog 41 c41 = true := by kernel_rfl
theorem k42 : Q0 Tryz.prog 42 c42 = true := by kernel_rfl
theorem k43 : Q0 Tryz.prog 43 c43 = true := by kernel_rfl
theorem k44 : Q0 Tryz.prog 44 c44 = true := by kernel_rfl
theorem k45 : Q0 Tryz.prog 45 c45 = true := by kernel_rfl
theorem k46 : Q0 Tryz.prog 46 c46 = true := by kernel_rfl
theorem k47 : Q0 Tryz.prog 47 c47 = true := by kernel_rfl
theorem k48 : Q0 Tryz.prog 48 c48 = true := by kernel_rfl
theorem k49 : Q0 Tryz.prog 49 c49 = true := by kernel_rfl
theorem k50 : Q0 Tryz.prog 50 c50 = true := by kernel_rfl
theorem k51 : Q0 Tryz.prog 51 c51 = true := by kernel_rfl
theorem k52 : Q0 Tryz.prog 52 c52 = true := by kernel_rfl
theorem k53 : Q0 Tryz.prog 53 c53 = true := by kernel_rfl
theorem k54 : Q0 Tryz.prog 54 c54 = true := by kernel_rfl
theorem k55 : Q0 Tryz.prog 55 c55 = true := by kernel_rfl
end
end Go.Av
namespace Go.Av
noncomputable section
open Go.Proofs
set_option maxRecDepth 100000
theorem k56 : Q0 Tryz.prog 56 c56 = true := by kernel_rfl
theorem k57 : Q0 Tryz.prog 57 c57 = true := by kernel_rfl
theorem k58 : Q0 Tryz.prog 58 c58 = true := by kernel_rfl
theorem k59 : Q0 Tryz.prog 59 c59 = true := by kernel_rfl
theorem k60 : Q0 Tryz.prog 60 c60 = true := by kernel_rfl
theorem k61 : Q0 Tryz.prog 61 c61 = true := by kernel_rfl
theorem k62 : Q0 Tryz.prog 62 c62 = true := by kernel_rfl
theorem k63 : Q0 Tryz.prog 63 c63 = true := by kernel_rfl
theorem k64 : Q0 Tryz.prog 64 c64 = true := by kernel_rfl
theorem k65 : Q0 Tryz.prog 65 c65 = true := by kernel_rfl
theorem k66 : Q0 Tryz.prog 66 c66 = true := by kernel_rfl
theorem k67 : Q0 Tryz.prog 67 c67 = true := by kernel_rfl
theorem k68 : Q0 Tryz.prog 68 c68 = true := by kernel_rfl
theorem k69 : Q0 Tryz.prog 69 c69 = true := by kernel_rfl
theorem k70 : Q0 Tryz.prog 70 c70 = true := by kernel_rfl
theorem k71 : Q0 Tryz.prog 71 c71 = true := by kernel_rfl
theorem k72 : Q0 Tryz.prog 72 c72 = true := by kernel_rfl
theorem k73 : Q0 Tryz.prog 73 c73 = true := by kernel_rfl
theorem k74 : Q0 Tryz.prog 74 c74 = true := by kernel_rfl
theorem k75 : Q0 Tryz.prog 75 c75 = true := by kernel_rfl
theorem k76 : Q0 Tryz.prog 76 c76 = true := by kernel_rfl
theorem k77 : Q0 Tryz.prog 77 c77 = true := by kernel_rfl
theorem k78 : Q0 Tryz.prog 78 c78 = true := by kernel_rfl
theorem k79 : Q0 Tryz.prog 79 c79 = true := by kernel_rfl
theorem k80 : Q0 Tryz.prog 80 c80 = true := by kernel_rfl
theorem k81 : Q0 Tryz.prog 81 c81 = true := by kernel_rfl
theorem k82 : Q0 Tryz.prog 82 c82 = true := by kernel_rfl
theorem k83 : Q0 Tryz.prog 83 c83 = true := by kernel_rfl
theorem k84 : Q0 Tryz.prog 84 c84 = true := by kernel_rfl
theorem k85 : Q0 Tryz.prog 85 c85 = true := by kernel_rfl
theorem k86 : Q0 Tryz.prog 86 c86 = true := by kernel_rfl
theorem k87 : Q0 Tryz.prog 87 c87 = true := by kernel_rfl
theorem k88 : Q0 Tryz.prog 88 c88 = true := by kernel_rfl
theorem k89 : Q0 Tryz.prog 89 c89 = true := by kernel_rfl
theorem k90 : Q0 Tryz.prog 90 c90 = true := by kernel_rfl
theorem k91 : Q0 Tryz.prog 91 c91 = true := by kernel_rfl
theorem k93 : Q0 Tryz.prog 93 c93 = true := by kernel_rfl
theorem k94 : Q0 Tryz.prog 94 c94 = true := by kernel_rfl
theorem k95 : Q0 Tryz.prog 95 c95 = true := by kernel_rfl
theorem k96 : Q0 Tryz.prog 96 c96 = true := by kernel_rfl
end
end Go.Av
namespace Go.Av
noncomputable section
open Go.Proofs
set_option maxRecDepth 100000
theorem k97 : Q0 Tryz.prog 97 c97 = true := by kernel_rfl
theorem k98 : Q0 Tryz.prog 98 c98 = true := by kernel_rfl
theorem k99 : Q0 Tryz.prog 99 c99 = true := by kernel_rfl
theorem Qm8 : Q0 Tryz.prog 100 Qmt = true := by kernel_rfl
theorem Qoj : Q0 Tryz.prog 101 Qlv = true := by kernel_rfl
theorem Qpm : Q0 Tryz.prog 102 Qn2 = true := by kernel_rfl
theorem Qmi : Q0 Tryz.prog 103 Qmw = true := by kernel_rfl
theorem Qpw : Q0 Tryz.prog 104 Qmh = true := by kernel_rfl
theorem Qpl : Q0 Tryz.prog 105 Qms = true := by kernel_rfl
theorem Qov : Q0 Tryz.prog 106 Qnp = true := by kernel_rfl
theorem Qpi : Q0 Tryz.prog 107 Qlx = true := by kernel_rfl
theorem Qoa : Q0 Tryz.prog 108 Qmo = true := by kernel_rfl
theorem Qoh : Q0 Tryz.prog 109 Qn5 = true := by kernel_rfl
theorem Qo2 : Q0 Tryz.prog 110 Qmr = true := by kernel_rfl
theorem Qp4 : Q0 Tryz.prog 111 Qm2 = true := by kernel_rfl
theorem Qos : Q0 Tryz.prog 112 Qnr = true := by kernel_rfl
theorem Qod : Q0 Tryz.prog 113 Qm1 = true := by kernel_rfl
theorem Qp7 : Q0 Tryz.prog 115 Qnx = true := by kernel_rfl
theorem Qor : Q0 Tryz.prog 116 Qnm = true := by kernel_rfl
theorem Qpc : Q0 Tryz.prog 117 Qm5 = true := by kernel_rfl
theorem Qpp : Q0 Tryz.prog 118 Qn4 = true := by kernel_rfl
theorem Qoo : Q0 Tryz.prog 119 Qmj = true := by kernel_rfl
theorem Qot : Q0 Tryz.prog 120 Qny = true := by kernel_rfl
theorem Qog : Q0 Tryz.prog 121 Qne = true := by kernel_rfl
theorem Qp1 : Q0 Tryz.prog 122 Qnw = true := by kernel_rfl
theorem Qo1 : Q0 Tryz.prog 123 Qnb = true := by kernel_rfl
theorem Qpt : Q0 Tryz.prog 124 Qmf = true := by kernel_rfl
theorem Qoc : Q0 Tryz.prog 125 Qnt = true := by kernel_rfl
theorem Qo4 : Q0 Tryz.prog 126 Qmz = true := by kernel_rfl
theorem Qpj : Q0 Tryz.prog 127 Qmx = true := by kernel_rfl
theorem Qpf : Q0 Tryz.prog 128 Qmd = true := by kernel_rfl
theorem Qpq : Q0 Tryz.prog 129 Qm3 = true := by kernel_rfl
theorem Qok : Q0 Tryz.prog 130 Qnv = true := by kernel_rfl
theorem Qpa : Q0 Tryz.prog 131 Qnd = true := by kernel_rfl
theorem Qpk : Q0 Tryz.prog 132 Qlt = true := by kernel_rfl
theorem Qoe : Q0 Tryz.prog 133 Qn3 = true := by kernel_rfl
theorem Qox : Q0 Tryz.prog 134 Qm6 = true := by kernel_rfl
theorem Qop : Q0 Tryz.prog 135 Qlz = true := by kernel_rfl
theorem Qom : Q0 Tryz.prog 136 Qni = true := by kernel_rfl
theorem Qp9 : Q0 Tryz.prog 137 Qmp = true := by kernel_rfl
theorem Qpv : Q0 Tryz.prog 138 Qnf = true := by kernel_rfl
theorem Qow : Q0 Tryz.prog 139 Qno = true := by kernel_rfl
theorem Qoy : Q0 Tryz.prog 140 Qmq = true := by kernel_rfl
theorem Qo8 : Q0 Tryz.prog 141 Qnj = true := by kernel_rfl
theorem Qo0 : Q0 Tryz.prog 142 Qmv = true := by kernel_rfl
theorem Qp5 : Q0 Tryz.prog 143 Qnn = true := by kernel_rfl
theorem Qpe : Q0 Tryz.prog 144 Qmu = true := by kernel_rfl
theorem Qp6 : Q0 Tryz.prog 145 Qlr = true := by kernel_rfl
theorem Qpd : Q0 Tryz.prog 146 Qm4 = true := by kernel_rfl
theorem Qpr : Q0 Tryz.prog 147 Qmb = true := by kernel_rfl
theorem Qpg : Q0 Tryz.prog 148 Qmm = true := by kernel_rfl
theorem Qob : Q0 Tryz.prog 149 Qls = true := by kernel_rfl
theorem Qo7 : Q0 Tryz.prog 150 Qnz = true := by kernel_rfl
theorem Qof : Q0 Tryz.prog 151 Qm9 = true := by kernel_rfl
theorem Qph : Q0 Tryz.prog 152 Qns = true := by kernel_rfl
theorem Qoi : Q0 Tryz.prog 153 Qna = true := by kernel_rfl
theorem Qoz : Q0 Tryz.prog 154 Qml = true := by kernel_rfl
theorem Qp8 : Q0 Tryz.prog 156 Qlw = true := by kernel_rfl
theorem Qpx : Q0 Tryz.prog 157 Qly = true := by kernel_rfl
end
end Go.Av
namespace Go.Av
noncomputable section
open Go.Proofs
set_option maxRecDepth 100000
theorem Qon : Q0 Tryz.prog 158 Qnk = true := by kernel_rfl
theorem Qou : Q0 Tryz.prog 159 Qmc = true := by kernel_rfl
end
end Go.Av

