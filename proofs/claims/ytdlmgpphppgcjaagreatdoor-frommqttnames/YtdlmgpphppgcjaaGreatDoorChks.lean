/- The law. Part of a proof of a given statement: for every input the law returns true and the arguments read as before; no condition beyond the given row. -/
import Derived.Test.YtdlmgpphppgcjaaGreatDoorCode1
import Derived.Test.YtdlmgpphppgcjaaGreatDoorAvChk
import Derived.KernelRfl
import Derived.Test.YtdlmgpphppgcjaaGreatDoorProg
namespace Go.Av
noncomputable section
open Go.Proofs
set_option maxRecDepth 100000
theorem k3 : Q0 Tryz.prog 3 c3 = true := by kernel_rfl
theorem k4 : Q0 Tryz.prog 4 c4 = true := by kernel_rfl
theorem k5 : Q0 Tryz.prog 5 c5 = true := by kernel_rfl
theorem k6 : Q0 Tryz.prog 6 c6 = true := by kernel_rfl
theorem k7 : Q0 Tryz.prog 7 c7 = true := by kernel_rfl
theorem k8 : Q0 Tryz.prog 8 c8 = true := by kernel_rfl
theorem k9 : Q0 Tryz.prog 9 c9 = true := by kernel_rfl
theorem k10 : Q0 Tryz.prog 10 c10 = true := by kernel_rfl
theorem k11 : Q0 Tryz.prog 11 c11 = true := by kernel_rfl
theorem k12 : Q0 Tryz.prog 12 c12 = true := by kernel_rfl
theorem k13 : Q0 Tryz.prog 13 c13 = true := by kernel_rfl
theorem k14 : Q0 Tryz.prog 14 c14 = true := by kernel_rfl
theorem k15 : Q0 Tryz.prog 15 c15 = true := by kernel_rfl
theorem k16 : Q0 Tryz.prog 16 c16 = true := by kernel_rfl
theorem k17 : Q0 Tryz.prog 17 c17 = true := by kernel_rfl
theorem k18 : Q0 Tryz.prog 18 c18 = true := by kernel_rfl
theorem k19 : Q0 Tryz.prog 19 c19 = true := by kernel_rfl
theorem k20 : Q0 Tryz.prog 20 c20 = true := by kernel_rfl
theorem k21 : Q0 Tryz.prog 21 c21 = true := by kernel_rfl
theorem k22 : Q0 Tryz.prog 22 c22 = true := by kernel_rfl
theorem k23 : Q0 Tryz.prog 23 c23 = true := by kernel_rfl
theorem k24 : Q0 Tryz.prog 24 c24 = true := by kernel_rfl
theorem k25 : Q0 Tryz.prog 25 c25 = true := by kernel_rfl
theorem k26 : Q0 Tryz.prog 26 c26 = true := by kernel_rfl
theorem k27 : Q0 Tryz.prog 27 c27 = true := by kernel_rfl
theorem k28 : Q0 Tryz.prog 28 c28 = true := by kernel_rfl
theorem k29 : Q0 Tryz.prog 29 c29 = true := by kernel_rfl
theorem k30 : Q0 Tryz.prog 30 c30 = true := by kernel_rfl
theorem k31 : Q0 Tryz.prog 31 c31 = true := by kernel_rfl
theorem k32 : Q0 Tryz.prog 32 c32 = true := by kernel_rfl
theorem k33 : Q0 Tryz.prog 33 c33 = true := by kernel_rfl
theorem k34 : Q0 Tryz.prog 34 c34 = true := by kernel_rfl
theorem k35 : Q0 Tryz.prog 35 c35 = true := by kernel_rfl
theorem k36 : Q0 Tryz.prog 36 c36 = true := by kernel_rfl
end
end Go.Av
namespace Go.Av
noncomputable section
open Go.Proofs
set_option maxRecDepth 100000
theorem k37 : Q0 Tryz.prog 37 c37 = true := by kernel_rfl
theorem k38 : Q0 Tryz.prog 38 c38 = true := by kernel_rfl
theorem k39 : Q0 Tryz.prog 39 c39 = true := by kernel_rfl
theorem k40 : Q0 Tryz.prog 40 c40 = true := by kernel_rfl
theorem k41 : Q0 Tryz.prog 41 c41 = true := by kernel_rfl
theorem k42 : Q0 Tryz.prog 42 c42 = true := by kernel_rfl
theorem k43 : Q0 Tryz.prog 43 c43 = true := by kernel_rfl
theorem k44 : Q0 Tryz.prog 44 c44 = true := by kernel_rfl
theorem k45 : Q0 Tryz.prog 45 c45 = true := by kernel_rfl
theorem k46 : Q0 Tryz.prog 46 c46 = true := by kernel_rfl
theorem k47 : Q0 Tryz.prog 47 c47 = true := by kernel_rfl
theorem k48 : Q0 Tryz.prog 48 c48 = true := by kernel_rfl
theorem k49 : Q0 Tryz.prog 49 c49 = true := by kernel_rfl
theorem k50 : Q0 Tryz.prog 50 c50 = true := by kernel_rfl
theorem k51 : Q0 Tryz.prog 51 c51 = true := by kernel_rfl
theorem k52 : Q0 Tryz.prog 52 c52 = true := by kernel_rfl
theorem k53 : Q0 Tryz.prog 53 c53 = true := by kernel_rfl
theorem k54 : Q0 Tryz.prog 54 c54 = true := by kernel_rfl
theorem k55 : Q0 Tryz.prog 55 c55 = true := by kernel_rfl
theorem k56 : Q0 Tryz.prog 56 c56 = true := by kernel_rfl
theorem k57 : Q0 Tryz.prog 57 c57 = true := by kernel_rfl
theorem k58 : Q0 Tryz.prog 58 c58 = true := by kernel_rfl
theorem k59 : Q0 Tryz.prog 59 c59 = true := by kernel_rfl
theorem k60 : Q0 Tryz.prog 60 c60 = true := by kernel_rfl
theorem k61 : Q0 Tryz.prog 61 c61 = true := by kernel_rfl
theorem k62 : Q0 Tryz.prog 62 c62 = true := by kernel_rfl
theorem k63 : Q0 Tryz.prog 63 c63 = true := by kernel_rfl
theorem k64 : Q0 Tryz.prog 64 c64 = true := by kernel_rfl
theorem k65 : Q0 Tryz.prog 65 c65 = true := by kernel_rfl
theorem k66 : Q0 Tryz.prog 66 c66 = true := by kernel_rfl
theorem k67 : Q0 Tryz.prog 67 c67 = true := by kernel_rfl
theorem k68 : Q0 Tryz.prog 68 c68 = true := by kernel_rfl
theorem k69 : Q0 Tryz.prog 69 c69 = true := by kernel_rfl
theorem k70 : Q0 Tryz.prog 70 c70 = true := by kernel_rfl
theorem k71 : Q0 Tryz.prog 71 c71 = true := by kernel_rfl
theorem k72 : Q0 Tryz.prog 72 c72 = true := by kernel_rfl
theorem k73 : Q0 Tryz.prog 73 c73 = true := by kernel_rfl
theorem k74 : Q0 Tryz.prog 74 c74 = true := by kernel_rfl
theorem k75 : Q0 Tryz.prog 75 c75 = true := by kernel_rfl
theorem k76 : Q0 Tryz.prog 76 c76 = true := by kernel_rfl
theorem k77 : Q0 Tryz.prog 77 c77 = true := by kernel_rfl
theorem k78 : Q0 Tryz.prog 78 c78 = true := by kernel_rfl
theorem k79 : Q0 Tryz.prog 79 c79 = true := by kernel_rfl
theorem k80 : Q0 Tryz.prog 80 c80 = true := by kernel_rfl
theorem k81 : Q0 Tryz.prog 81 c81 = true := by kernel_rfl
theorem k82 : Q0 Tryz.prog 82 c82 = true := by kernel_rfl
theorem k83 : Q0 Tryz.prog 83 c83 = true := by kernel_rfl
theorem k84 : Q0 Tryz.prog 84 c84 = true := by kernel_rfl
theorem k85 : Q0 Tryz.prog 85 c85 = true := by kernel_rfl
theorem k86 : Q0 Tryz.prog 86 c86 = true := by kernel_rfl
theorem k87 : Q0 Tryz.prog 87 c87 = true := by kernel_rfl
theorem k88 : Q0 Tryz.prog 88 c88 = true := by kernel_rfl
theorem k89 : Q0 Tryz.prog 89 c89 = true := by kernel_rfl
theorem k90 : Q0 Tryz.prog 90 c90 = true := by kernel_rfl
theorem k91 : Q0 Tryz.prog 91 c91 = true := by kernel_rfl
theorem k92 : Q0 Tryz.prog 92 c92 = true := by kernel_rfl
theorem k93 : Q0 Tryz.prog 93 c93 = true := by kernel_rfl
theorem k94 : Q0 Tryz.prog 94 c94 = true := by kernel_rfl
theorem k95 : Q0 Tryz.prog 95 c95 = true := by kernel_rfl
theorem k96 : Q0 Tryz.prog 96 c96 = true := by kernel_rfl
theorem k97 : Q0 Tryz.prog 97 c97 = true := by kernel_rfl
theorem k98 : Q0 Tryz.prog 98 c98 = true := by kernel_rfl
end
end Go.Av
namespace Go.Av
noncomputable section
open Go.Proofs
set_option maxRecDepth 100000
theorem k99 : Q0 Tryz.prog 99 c99 = true := by kernel_rfl
theorem Qgh : Q0 Tryz.prog 100 Qeq = true := by kernel_rfl
theorem Qhd : Q0 Tryz.prog 101 Qbl = true := by kernel_rfl
theorem Qgj : Q0 Tryz.prog 102 Q9g = true := by kernel_rfl
theorem Qm9 : Q0 Tryz.prog 103 Qcm = true := by kernel_rfl
theorem Qkf : Q0 Tryz.prog 104 Qc6 = true := by kernel_rfl
theorem Qh0 : Q0 Tryz.prog 105 Q9p = true := by kernel_rfl
theorem Qhy : Q0 Tryz.prog 106 Qdi = true := by kernel_rfl
theorem Qma : Q0 Tryz.prog 107 Qe4 = true := by kernel_rfl
theorem Qkj : Q0 Tryz.prog 108 Qe9 = true := by kernel_rfl
theorem Qj3 : Q0 Tryz.prog 109 Q8z = true := by kernel_rfl
theorem Qm2 : Q0 Tryz.prog 110 Qcz = true := by kernel_rfl
theorem Qgn : Q0 Tryz.prog 111 Q9k = true := by kernel_rfl
theorem Qmp : Q0 Tryz.prog 112 Qfh = true := by kernel_rfl
theorem Qh7 : Q0 Tryz.prog 113 Qau = true := by kernel_rfl
theorem Qlc : Q0 Tryz.prog 114 Qac = true := by kernel_rfl
theorem Qkw : Q0 Tryz.prog 115 Qcu = true := by kernel_rfl
theorem Qkr : Q0 Tryz.prog 116 Qaz = true := by kernel_rfl
theorem Qln : Q0 Tryz.prog 117 Q90 = true := by kernel_rfl
theorem Qlk : Q0 Tryz.prog 118 Qf7 = true := by kernel_rfl
theorem Qke : Q0 Tryz.prog 119 Qcw = true := by kernel_rfl
theorem Qjs : Q0 Tryz.prog 120 Qex = true := by kernel_rfl
theorem Qg0 : Q0 Tryz.prog 121 Qby = true := by kernel_rfl
theorem Qg8 : Q0 Tryz.prog 122 Qb8 = true := by kernel_rfl
theorem Qlx : Q0 Tryz.prog 123 Q8y = true := by kernel_rfl
theorem Qjj : Q0 Tryz.prog 124 Qaf = true := by kernel_rfl
theorem Qk3 : Q0 Tryz.prog 125 Qeg = true := by kernel_rfl
theorem Qkc : Q0 Tryz.prog 126 Qc9 = true := by kernel_rfl
theorem Qit : Q0 Tryz.prog 127 Qb1 = true := by kernel_rfl
theorem Qgr : Q0 Tryz.prog 128 Qbc = true := by kernel_rfl
theorem Qgs : Q0 Tryz.prog 129 Qdk = true := by kernel_rfl
theorem Qkn : Q0 Tryz.prog 130 Qfq = true := by kernel_rfl
theorem Qfz : Q0 Tryz.prog 131 Qc0 = true := by kernel_rfl
theorem Ql0 : Q0 Tryz.prog 132 Qbd = true := by kernel_rfl
theorem Qlo : Q0 Tryz.prog 133 Qet = true := by kernel_rfl
theorem Qgt : Q0 Tryz.prog 134 Qbq = true := by kernel_rfl
end
end Go.Av
namespace Go.Av
noncomputable section
open Go.Proofs
set_option maxRecDepth 100000
theorem Qmi : Q0 Tryz.prog 135 Qap = true := by kernel_rfl
theorem Qld : Q0 Tryz.prog 136 Q9c = true := by kernel_rfl
theorem Qhm : Q0 Tryz.prog 137 Q9f = true := by kernel_rfl
theorem Qlv : Q0 Tryz.prog 138 Q9b = true := by kernel_rfl
theorem Qly : Q0 Tryz.prog 139 Q92 = true := by kernel_rfl
theorem Qiv : Q0 Tryz.prog 140 Qb9 = true := by kernel_rfl
theorem Qhh : Q0 Tryz.prog 141 Qel = true := by kernel_rfl
theorem Qhg : Q0 Tryz.prog 142 Q9q = true := by kernel_rfl
theorem Qhv : Q0 Tryz.prog 143 Qd1 = true := by kernel_rfl
theorem Qjb : Q0 Tryz.prog 144 Qer = true := by kernel_rfl
theorem Qg3 : Q0 Tryz.prog 145 Q8s = true := by kernel_rfl
theorem Ql9 : Q0 Tryz.prog 146 Q94 = true := by kernel_rfl
theorem Qi4 : Q0 Tryz.prog 147 Qdd = true := by kernel_rfl
theorem Qil : Q0 Tryz.prog 148 Qbk = true := by kernel_rfl
theorem Qg7 : Q0 Tryz.prog 149 Qcn = true := by kernel_rfl
theorem Qmr : Q0 Tryz.prog 150 Qc3 = true := by kernel_rfl
theorem Qm7 : Q0 Tryz.prog 151 Qeu = true := by kernel_rfl
theorem Qig : Q0 Tryz.prog 152 Qcf = true := by kernel_rfl
theorem Qkl : Q0 Tryz.prog 153 Qfs = true := by kernel_rfl
theorem Qkg : Q0 Tryz.prog 154 Q9y = true := by kernel_rfl
theorem Qm3 : Q0 Tryz.prog 155 Qd2 = true := by kernel_rfl
theorem Qk4 : Q0 Tryz.prog 156 Qed = true := by kernel_rfl
theorem Qmn : Q0 Tryz.prog 157 Qe3 = true := by kernel_rfl
theorem Qge : Q0 Tryz.prog 158 Qfm = true := by kernel_rfl
theorem Qjg : Q0 Tryz.prog 159 Qce = true := by kernel_rfl
theorem Qgc : Q0 Tryz.prog 160 Qdy = true := by kernel_rfl
theorem Qlp : Q0 Tryz.prog 161 Qe8 = true := by kernel_rfl
theorem Qgq : Q0 Tryz.prog 162 Qfc = true := by kernel_rfl
theorem Qg9 : Q0 Tryz.prog 163 Qcj = true := by kernel_rfl
theorem Qi5 : Q0 Tryz.prog 164 Qfu = true := by kernel_rfl
theorem Qls : Q0 Tryz.prog 165 Qda = true := by kernel_rfl
theorem Qkm : Q0 Tryz.prog 166 Qar = true := by kernel_rfl
theorem Qki : Q0 Tryz.prog 167 Qej = true := by kernel_rfl
theorem Qlt : Q0 Tryz.prog 168 Qbs = true := by kernel_rfl
theorem Qmc : Q0 Tryz.prog 169 Qd3 = true := by kernel_rfl
theorem Qks : Q0 Tryz.prog 170 Qbj = true := by kernel_rfl
theorem Qgf : Q0 Tryz.prog 171 Qbw = true := by kernel_rfl
theorem Ql5 : Q0 Tryz.prog 172 Qfn = true := by kernel_rfl
theorem Qjo : Q0 Tryz.prog 173 Qco = true := by kernel_rfl
theorem Qhb : Q0 Tryz.prog 174 Q9u = true := by kernel_rfl
theorem Qi9 : Q0 Tryz.prog 175 Qba = true := by kernel_rfl
theorem Qgp : Q0 Tryz.prog 176 Qcs = true := by kernel_rfl
theorem Qh2 : Q0 Tryz.prog 177 Qez = true := by kernel_rfl
theorem Qk1 : Q0 Tryz.prog 178 Qei = true := by kernel_rfl
theorem Qlz : Q0 Tryz.prog 179 Q9h = true := by kernel_rfl
theorem Qgb : Q0 Tryz.prog 180 Qbh = true := by kernel_rfl
theorem Qmt : Q0 Tryz.prog 181 Qfi = true := by kernel_rfl
theorem Qkt : Q0 Tryz.prog 182 Qfg = true := by kernel_rfl
theorem Qm8 : Q0 Tryz.prog 183 Q9z = true := by kernel_rfl
theorem Qmj : Q0 Tryz.prog 184 Q98 = true := by kernel_rfl
theorem Qgd : Q0 Tryz.prog 185 Qdt = true := by kernel_rfl
theorem Qi0 : Q0 Tryz.prog 186 Qa4 = true := by kernel_rfl
theorem Qlr : Q0 Tryz.prog 187 Qaw = true := by kernel_rfl
theorem Qfw : Q0 Tryz.prog 188 Qaq = true := by kernel_rfl
theorem Qj2 : Q0 Tryz.prog 189 Q9o = true := by kernel_rfl
theorem Qg2 : Q0 Tryz.prog 190 Q9d = true := by kernel_rfl
theorem Qg5 : Q0 Tryz.prog 191 Qcx = true := by kernel_rfl
theorem Qlw : Q0 Tryz.prog 192 Qb2 = true := by kernel_rfl
end
end Go.Av
namespace Go.Av
noncomputable section
open Go.Proofs
set_option maxRecDepth 100000
theorem Qis : Q0 Tryz.prog 193 Qfo = true := by kernel_rfl
theorem Qgi : Q0 Tryz.prog 194 Qdn = true := by kernel_rfl
theorem Qjl : Q0 Tryz.prog 195 Qfk = true := by kernel_rfl
theorem Qi6 : Q0 Tryz.prog 196 Qai = true := by kernel_rfl
theorem Qi1 : Q0 Tryz.prog 197 Qfd = true := by kernel_rfl
theorem Qgo : Q0 Tryz.prog 198 Qay = true := by kernel_rfl
theorem Qhf : Q0 Tryz.prog 199 Qe0 = true := by kernel_rfl
theorem Qiw : Q0 Tryz.prog 200 Qdv = true := by kernel_rfl
theorem Qmh : Q0 Tryz.prog 201 Q9l = true := by kernel_rfl
theorem Qgy : Q0 Tryz.prog 202 Qdj = true := by kernel_rfl
theorem Ql8 : Q0 Tryz.prog 203 Qad = true := by kernel_rfl
theorem Qie : Q0 Tryz.prog 204 Qcp = true := by kernel_rfl
theorem Qij : Q0 Tryz.prog 205 Qck = true := by kernel_rfl
theorem Qm6 : Q0 Tryz.prog 206 Qf5 = true := by kernel_rfl
theorem Qjd : Q0 Tryz.prog 207 Qee = true := by kernel_rfl
theorem Qga : Q0 Tryz.prog 208 Qf8 = true := by kernel_rfl
theorem Qjw : Q0 Tryz.prog 209 Qcr = true := by kernel_rfl
theorem Qhr : Q0 Tryz.prog 210 Qf4 = true := by kernel_rfl
theorem Qhc : Q0 Tryz.prog 211 Qe5 = true := by kernel_rfl
theorem Qlh : Q0 Tryz.prog 212 Qam = true := by kernel_rfl
theorem Qkk : Q0 Tryz.prog 213 Qbv = true := by kernel_rfl
theorem Qml : Q0 Tryz.prog 214 Q9j = true := by kernel_rfl
theorem Qje : Q0 Tryz.prog 216 Qe7 = true := by kernel_rfl
theorem Qlf : Q0 Tryz.prog 217 Qa3 = true := by kernel_rfl
theorem Qib : Q0 Tryz.prog 218 Qdo = true := by kernel_rfl
theorem Qj4 : Q0 Tryz.prog 219 Qc2 = true := by kernel_rfl
theorem Qhp : Q0 Tryz.prog 220 Qfp = true := by kernel_rfl
theorem Qin : Q0 Tryz.prog 221 Q8r = true := by kernel_rfl
theorem Ql2 : Q0 Tryz.prog 222 Qbz = true := by kernel_rfl
theorem Qik : Q0 Tryz.prog 223 Qf1 = true := by kernel_rfl
theorem Qgz : Q0 Tryz.prog 224 Qdc = true := by kernel_rfl
theorem Qjm : Q0 Tryz.prog 225 Qbu = true := by kernel_rfl
theorem Qlq : Q0 Tryz.prog 226 Qax = true := by kernel_rfl
theorem Qla : Q0 Tryz.prog 227 Qah = true := by kernel_rfl
theorem Qju : Q0 Tryz.prog 228 Q9r = true := by kernel_rfl
theorem Qk8 : Q0 Tryz.prog 229 Qeh = true := by kernel_rfl
theorem Qim : Q0 Tryz.prog 230 Q9t = true := by kernel_rfl
theorem Qix : Q0 Tryz.prog 232 Q9n = true := by kernel_rfl
theorem Qmd : Q0 Tryz.prog 233 Qae = true := by kernel_rfl
theorem Qgg : Q0 Tryz.prog 234 Q99 = true := by kernel_rfl
theorem Qiy : Q0 Tryz.prog 235 Qc1 = true := by kernel_rfl
theorem Qj5 : Q0 Tryz.prog 236 Qea = true := by kernel_rfl
theorem Qkh : Q0 Tryz.prog 237 Qab = true := by kernel_rfl
theorem Qll : Q0 Tryz.prog 238 Qci = true := by kernel_rfl
theorem Qgu : Q0 Tryz.prog 239 Q9x = true := by kernel_rfl
theorem Qjc : Q0 Tryz.prog 240 Qa7 = true := by kernel_rfl
theorem Qkb : Q0 Tryz.prog 241 Qcy = true := by kernel_rfl
theorem Qjp : Q0 Tryz.prog 242 Qcc = true := by kernel_rfl
theorem Qjq : Q0 Tryz.prog 243 Qdz = true := by kernel_rfl
end
end Go.Av
namespace Go.Av
noncomputable section
open Go.Proofs
set_option maxRecDepth 100000
theorem Qlm : Q0 Tryz.prog 244 Qb0 = true := by kernel_rfl
theorem Qho : Q0 Tryz.prog 245 Qbr = true := by kernel_rfl
theorem Qk5 : Q0 Tryz.prog 246 Qan = true := by kernel_rfl
theorem Qkv : Q0 Tryz.prog 247 Qds = true := by kernel_rfl
theorem Qht : Q0 Tryz.prog 248 Qfe = true := by kernel_rfl
theorem Qhe : Q0 Tryz.prog 249 Qbp = true := by kernel_rfl
theorem Qkp : Q0 Tryz.prog 250 Qat = true := by kernel_rfl
theorem Ql4 : Q0 Tryz.prog 251 Qdl = true := by kernel_rfl
theorem Qjn : Q0 Tryz.prog 252 Qc4 = true := by kernel_rfl
theorem Qjt : Q0 Tryz.prog 253 Qe1 = true := by kernel_rfl
theorem Qmk : Q0 Tryz.prog 254 Qb7 = true := by kernel_rfl
theorem Qmm : Q0 Tryz.prog 255 Q93 = true := by kernel_rfl
theorem Qfy : Q0 Tryz.prog 256 Qal = true := by kernel_rfl
theorem Qh6 : Q0 Tryz.prog 257 Qd9 = true := by kernel_rfl
theorem Qiq : Q0 Tryz.prog 258 Qbo = true := by kernel_rfl
theorem Qgv : Q0 Tryz.prog 259 Qep = true := by kernel_rfl
theorem Qhw : Q0 Tryz.prog 260 Qc8 = true := by kernel_rfl
theorem Qiu : Q0 Tryz.prog 261 Qa0 = true := by kernel_rfl
theorem Qii : Q0 Tryz.prog 262 Qcg = true := by kernel_rfl
theorem Qmw : Q0 Tryz.prog 263 Qcq = true := by kernel_rfl
theorem Qi7 : Q0 Tryz.prog 264 Qa6 = true := by kernel_rfl
theorem Qh5 : Q0 Tryz.prog 265 Qft = true := by kernel_rfl
theorem Qip : Q0 Tryz.prog 266 Q9v = true := by kernel_rfl
theorem Qhi : Q0 Tryz.prog 267 Qfb = true := by kernel_rfl
theorem Qjf : Q0 Tryz.prog 268 Qfj = true := by kernel_rfl
theorem Qgw : Q0 Tryz.prog 269 Qb3 = true := by kernel_rfl
theorem Qkx : Q0 Tryz.prog 270 Qb6 = true := by kernel_rfl
theorem Qih : Q0 Tryz.prog 271 Q8u = true := by kernel_rfl
theorem Qha : Q0 Tryz.prog 272 Qbm = true := by kernel_rfl
theorem Qms : Q0 Tryz.prog 273 Qbg = true := by kernel_rfl
theorem Qi3 : Q0 Tryz.prog 274 Qf6 = true := by kernel_rfl
theorem Qgk : Q0 Tryz.prog 275 Qd4 = true := by kernel_rfl
theorem Qhz : Q0 Tryz.prog 276 Qfa = true := by kernel_rfl
theorem Qm4 : Q0 Tryz.prog 277 Qe2 = true := by kernel_rfl
theorem Qkq : Q0 Tryz.prog 278 Qcd = true := by kernel_rfl
theorem Qi2 : Q0 Tryz.prog 279 Qdp = true := by kernel_rfl
theorem Qhl : Q0 Tryz.prog 280 Qf2 = true := by kernel_rfl
theorem Qhq : Q0 Tryz.prog 281 Q9e = true := by kernel_rfl
theorem Qi8 : Q0 Tryz.prog 282 Qcv = true := by kernel_rfl
theorem Qkd : Q0 Tryz.prog 283 Qdb = true := by kernel_rfl
theorem Qhs : Q0 Tryz.prog 284 Q8x = true := by kernel_rfl
theorem Qh8 : Q0 Tryz.prog 285 Q9i = true := by kernel_rfl
theorem Qm1 : Q0 Tryz.prog 286 Qbe = true := by kernel_rfl
theorem Qkz : Q0 Tryz.prog 287 Q8t = true := by kernel_rfl
theorem Qhn : Q0 Tryz.prog 288 Q9w = true := by kernel_rfl
theorem Qjy : Q0 Tryz.prog 289 Qdm = true := by kernel_rfl
theorem Qm5 : Q0 Tryz.prog 290 Qbf = true := by kernel_rfl
theorem Ql1 : Q0 Tryz.prog 291 Qd6 = true := by kernel_rfl
theorem Qjv : Q0 Tryz.prog 292 Qd5 = true := by kernel_rfl
theorem Ql7 : Q0 Tryz.prog 293 Qdw = true := by kernel_rfl
theorem Qj8 : Q0 Tryz.prog 295 Qd0 = true := by kernel_rfl
theorem Qku : Q0 Tryz.prog 296 Q9s = true := by kernel_rfl
theorem Qio : Q0 Tryz.prog 297 Qcl = true := by kernel_rfl
theorem Qky : Q0 Tryz.prog 298 Qbn = true := by kernel_rfl
theorem Qmf : Q0 Tryz.prog 299 Qdx = true := by kernel_rfl
theorem Qfx : Q0 Tryz.prog 300 Qb4 = true := by kernel_rfl
theorem Qjk : Q0 Tryz.prog 301 Qas = true := by kernel_rfl
theorem Qjx : Q0 Tryz.prog 302 Qeo = true := by kernel_rfl
theorem Qmg : Q0 Tryz.prog 303 Qa9 = true := by kernel_rfl
theorem Qme : Q0 Tryz.prog 304 Qec = true := by kernel_rfl
theorem Qh4 : Q0 Tryz.prog 305 Qef = true := by kernel_rfl
theorem Qh1 : Q0 Tryz.prog 306 Qev = true := by kernel_rfl
theorem Ql6 : Q0 Tryz.prog 307 Q91 = true := by kernel_rfl
theorem Qhj : Q0 Tryz.prog 308 Qbt = true := by kernel_rfl
theorem Qh3 : Q0 Tryz.prog 309 Qff = true := by kernel_rfl
theorem Qk9 : Q0 Tryz.prog 310 Qav = true := by kernel_rfl
theorem Qgx : Q0 Tryz.prog 311 Qcb = true := by kernel_rfl
end
end Go.Av
namespace Go.Av
noncomputable section
open Go.Proofs
set_option maxRecDepth 100000
theorem Qic : Q0 Tryz.prog 312 Qe6 = true := by kernel_rfl
theorem Qg1 : Q0 Tryz.prog 315 Qdu = true := by kernel_rfl
theorem Qli : Q0 Tryz.prog 316 Qen = true := by kernel_rfl
theorem Qlj : Q0 Tryz.prog 317 Qfl = true := by kernel_rfl
theorem Qhx : Q0 Tryz.prog 318 Qbx = true := by kernel_rfl
theorem Qmq : Q0 Tryz.prog 319 Q8w = true := by kernel_rfl
theorem Qjz : Q0 Tryz.prog 320 Qek = true := by kernel_rfl
theorem Qhu : Q0 Tryz.prog 321 Qem = true := by kernel_rfl
theorem Qle : Q0 Tryz.prog 322 Qa5 = true := by kernel_rfl
theorem Qko : Q0 Tryz.prog 323 Qbb = true := by kernel_rfl
theorem Qjr : Q0 Tryz.prog 324 Qdg = true := by kernel_rfl
theorem Qlu : Q0 Tryz.prog 325 Qeb = true := by kernel_rfl
theorem Qid : Q0 Tryz.prog 326 Q9a = true := by kernel_rfl
theorem Qj9 : Q0 Tryz.prog 327 Qf9 = true := by kernel_rfl
theorem Qia : Q0 Tryz.prog 328 Qa8 = true := by kernel_rfl
theorem Qfv : Q0 Tryz.prog 329 Qdh = true := by kernel_rfl
theorem Qka : Q0 Tryz.prog 330 Qa2 = true := by kernel_rfl
theorem Qj6 : Q0 Tryz.prog 331 Q9m = true := by kernel_rfl
theorem Qj7 : Q0 Tryz.prog 332 Qca = true := by kernel_rfl
theorem Qmu : Q0 Tryz.prog 333 Qct = true := by kernel_rfl
theorem Qlb : Q0 Tryz.prog 334 Q96 = true := by kernel_rfl
theorem Qj1 : Q0 Tryz.prog 335 Qfr = true := by kernel_rfl
theorem Qhk : Q0 Tryz.prog 336 Qak = true := by kernel_rfl
theorem Ql3 : Q0 Tryz.prog 337 Qaa = true := by kernel_rfl
theorem Qj0 : Q0 Tryz.prog 338 Q8v = true := by kernel_rfl
theorem Qk7 : Q0 Tryz.prog 339 Qag = true := by kernel_rfl
theorem Qmo : Q0 Tryz.prog 340 Qa1 = true := by kernel_rfl
theorem Qjh : Q0 Tryz.prog 341 Q97 = true := by kernel_rfl
end
end Go.Av
namespace Go.Av
noncomputable section
open Go.Proofs
set_option maxRecDepth 100000
theorem Qg6 : Q0 Tryz.prog 342 Qdr = true := by kernel_rfl
theorem Qmb : Q0 Tryz.prog 343 Qdf = true := by kernel_rfl
theorem Qgl : Q0 Tryz.prog 344 Qaj = true := by kernel_rfl
theorem Qja : Q0 Tryz.prog 345 Qb5 = true := by kernel_rfl
theorem Qlg : Q0 Tryz.prog 346 Qd7 = true := by kernel_rfl
theorem Qk0 : Q0 Tryz.prog 347 Qbi = true := by kernel_rfl
theorem Qmv : Q0 Tryz.prog 349 Qey = true := by kernel_rfl
theorem Qif : Q0 Tryz.prog 350 Qao = true := by kernel_rfl
theorem Qg4 : Q0 Tryz.prog 351 Qew = true := by kernel_rfl
theorem Qiz : Q0 Tryz.prog 352 Qc5 = true := by kernel_rfl
theorem Qgm : Q0 Tryz.prog 353 Qdq = true := by kernel_rfl
end
end Go.Av

