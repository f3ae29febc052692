/- Part of the proof of VerdictNames: for every input the law returns true; no condition. -/
import Derived.Test.YtkoplndinjflaaaGreatDoorCode1
import Derived.Test.YtkoplndinjflaaaGreatDoorAvChk
import Derived.KernelRfl
import Derived.Test.YtkoplndinjflaaaGreatDoorProg
namespace Go.Av
noncomputable section
open Go.Proofs
set_option maxRecDepth 100000
theorem k3 : Q0 Tryz.prog 3 c3 = true := by kernel_rfl
theorem k4 : Q0 Tryz.prog 4 c4 = true := by kernel_rfl
theorem k5 : Q0 Tryz.prog 5 c5 = true := by kernel_rfl
theorem k6 : Q0 Tryz.prog 6 c6 = true := by kernel_rfl
theorem k7 : Q0 Tryz.prog 7 c7 = true := by kernel_rfl
theorem k8 : Q0 Tryz.prog 8 c8 = true := by kernel_rfl
theorem k9 : Q0 Tryz.prog 9 c9 = true := by kernel_rfl
theorem k10 : Q0 Tryz.prog 10 c10 = true := by kernel_rfl
theorem k11 : Q0 Tryz.prog 11 c11 = true := by kernel_rfl
theorem k12 : Q0 Tryz.prog 12 c12 = true := by kernel_rfl
theorem k13 : Q0 Tryz.prog 13 c13 = true := by kernel_rfl
theorem k14 : Q0 Tryz.prog 14 c14 = true := by kernel_rfl
theorem k15 : Q0 Tryz.prog 15 c15 = true := by kernel_rfl
theorem k16 : Q0 Tryz.prog 16 c16 = true := by kernel_rfl
theorem k17 : Q0 Tryz.prog 17 c17 = true := by kernel_rfl
theorem k18 : Q0 Tryz.prog 18 c18 = true := by kernel_rfl
theorem k19 : Q0 Tryz.prog 19 c19 = true := by kernel_rfl
theorem k20 : Q0 Tryz.prog 20 c20 = true := by kernel_rfl
theorem k21 : Q0 Tryz.prog 21 c21 = true := by kernel_rfl
theorem k22 : Q0 Tryz.prog 22 c22 = true := by kernel_rfl
theorem k23 : Q0 Tryz.prog 23 c23 = true := by kernel_rfl
theorem k24 : Q0 Tryz.prog 24 c24 = true := by kernel_rfl
theorem k25 : Q0 Tryz.prog 25 c25 = true := by kernel_rfl
theorem k26 : Q0 Tryz.prog 26 c26 = true := by kernel_rfl
theorem k27 : Q0 Tryz.prog 27 c27 = true := by kernel_rfl
theorem k28 : Q0 Tryz.prog 28 c28 = true := by kernel_rfl
theorem k29 : Q0 Tryz.prog 29 c29 = true := by kernel_rfl
theorem k30 : Q0 Tryz.prog 30 c30 = true := by kernel_rfl
theorem k31 : Q0 Tryz.prog 31 c31 = true := by kernel_rfl
theorem k32 : Q0 Tryz.prog 32 c32 = true := by kernel_rfl
theorem k33 : Q0 Tryz.prog 33 c33 = true := by kernel_rfl
theorem k34 : Q0 Tryz.prog 34 c34 = true := by kernel_rfl
theorem k35 : Q0 Tryz.prog 35 c35 = true := by kernel_rfl
theorem k36 : Q0 Tryz.prog 36 c36 = true := by kernel_rfl
theorem k37 : Q0 Tryz.prog 37 c37 = true := by kernel_rfl
theorem k38 : Q0 Tryz.prog 38 c38 = true := by kernel_rfl
theorem k39 : Q0 Tryz.prog 39 c39 = true := by kernel_rfl
theorem k40 : Q0 Tryz.prog 40 c40 = true := by kernel_rfl
end
end Go.Av
namespace Go.Av
noncomputable section
open Go.Proofs
set_option maxRecDepth 100000
theorem k41 : Q0 Tryz.prog 41 c41 = true := by kernel_rfl
theorem k42 : Q0 Tryz.prog 42 c42 = true := by kernel_rfl
theorem k43 : Q0 Tryz.prog 43 c43 = true := by kernel_rfl
theorem k44 : Q0 Tryz.prog 44 c44 = true := by kernel_rfl
theorem k45 : Q0 Tryz.prog 45 c45 = true := by kernel_rfl
theorem k46 : Q0 Tryz.prog 46 c46 = true := by kernel_rfl
theorem k47 : Q0 Tryz.prog 47 c47 = true := by kernel_rfl
theorem k48 : Q0 Tryz.prog 48 c48 = true := by kernel_rfl
theorem k49 : Q0 Tryz.prog 49 c49 = true := by kernel_rfl
theorem k50 : Q0 Tryz.prog 50 c50 = true := by kernel_rfl
theorem k51 : Q0 Tryz.prog 51 c51 = true := by kernel_rfl
theorem k52 : Q0 Tryz.prog 52 c52 = true := by kernel_rfl
theorem k53 : Q0 Tryz.prog 53 c53 = true := by kernel_rfl
theorem k54 : Q0 Tryz.prog 54 c54 = true := by kernel_rfl
theorem k55 : Q0 Tryz.prog 55 c55 = true := by kernel_rfl
theorem k56 : Q0 Tryz.prog 56 c56 = true := by kernel_rfl
theorem k57 : Q0 Tryz.prog 57 c57 = true := by kernel_rfl
theorem k58 : Q0 Tryz.prog 58 c58 = true := by kernel_rfl
theorem k59 : Q0 Tryz.prog 59 c59 = true := by kernel_rfl
theorem k60 : Q0 Tryz.prog 60 c60 = true := by kernel_rfl
theorem k61 : Q0 Tryz.prog 61 c61 = true := by kernel_rfl
theorem k62 : Q0 Tryz.prog 62 c62 = true := by kernel_rfl
theorem k63 : Q0 Tryz.prog 63 c63 = true := by kernel_rfl
theorem k64 : Q0 Tryz.prog 64 c64 = true := by kernel_rfl
theorem k65 : Q0 Tryz.prog 65 c65 = true := by kernel_rfl
theorem k66 : Q0 Tryz.prog 66 c66 = true := by kernel_rfl
theorem k67 : Q0 Tryz.prog 67 c67 = true := by kernel_rfl
theorem k68 : Q0 Tryz.prog 68 c68 = true := by kernel_rfl
theorem k69 : Q0 Tryz.prog 69 c69 = true := by kernel_rfl
theorem k70 : Q0 Tryz.prog 70 c70 = true := by kernel_rfl
theorem k71 : Q0 Tryz.prog 71 c71 = true := by kernel_rfl
theorem k72 : Q0 Tryz.prog 72 c72 = true := by kernel_rfl
theorem k73 : Q0 Tryz.prog 73 c73 = true := by kernel_rfl
theorem k74 : Q0 Tryz.prog 74 c74 = true := by kernel_rfl
theorem k75 : Q0 Tryz.prog 75 c75 = true := by kernel_rfl
theorem k76 : Q0 Tryz.prog 76 c76 = true := by kernel_rfl
theorem k77 : Q0 Tryz.prog 77 c77 = true := by kernel_rfl
theorem k78 : Q0 Tryz.prog 78 c78 = true := by kernel_rfl
theorem k79 : Q0 Tryz.prog 79 c79 = true := by kernel_rfl
theorem k80 : Q0 Tryz.prog 80 c80 = true := by kernel_rfl
theorem k81 : Q0 Tryz.prog 81 c81 = true := by kernel_rfl
theorem k82 : Q0 Tryz.prog 82 c82 = true := by kernel_rfl
theorem k83 : Q0 Tryz.prog 83 c83 = true := by kernel_rfl
theorem k84 : Q0 Tryz.prog 84 c84 = true := by kernel_rfl
theorem k85 : Q0 Tryz.prog 85 c85 = true := by kernel_rfl
theorem k86 : Q0 Tryz.prog 86 c86 = true := by kernel_rfl
theorem k87 : Q0 Tryz.prog 87 c87 = true := by kernel_rfl
theorem k88 : Q0 Tryz.prog 88 c88 = true := by kernel_rfl
end
end Go.Av
namespace Go.Av
noncomputable section
open Go.Proofs
set_option maxRecDepth 100000
theorem k89 : Q0 Tryz.prog 89 c89 = true := by kernel_rfl
theorem k90 : Q0 Tryz.prog 90 c90 = true := by kernel_rfl
theorem k91 : Q0 Tryz.prog 91 c91 = true := by kernel_rfl
theorem k92 : Q0 Tryz.prog 92 c92 = true := by kernel_rfl
theorem k93 : Q0 Tryz.prog 93 c93 = true := by kernel_rfl
theorem k94 : Q0 Tryz.prog 94 c94 = true := by kernel_rfl
theorem k95 : Q0 Tryz.prog 95 c95 = true := by kernel_rfl
theorem k96 : Q0 Tryz.prog 96 c96 = true := by kernel_rfl
theorem k97 : Q0 Tryz.prog 97 c97 = true := by kernel_rfl
theorem k98 : Q0 Tryz.prog 98 c98 = true := by kernel_rfl
theorem k99 : Q0 Tryz.prog 99 c99 = true := by kernel_rfl
theorem Qmt : Q0 Tryz.prog 100 Qfb = true := by kernel_rfl
theorem Qn9 : Q0 Tryz.prog 101 Qfa = true := by kernel_rfl
theorem Qs6 : Q0 Tryz.prog 102 Qdo = true := by kernel_rfl
theorem Qn3 : Q0 Tryz.prog 103 Qcc = true := by kernel_rfl
theorem Qrn : Q0 Tryz.prog 104 Qi6 = true := by kernel_rfl
theorem Qpr : Q0 Tryz.prog 105 Qgt = true := by kernel_rfl
theorem Qqo : Q0 Tryz.prog 106 Qi8 = true := by kernel_rfl
theorem Qrh : Q0 Tryz.prog 107 Qdy = true := by kernel_rfl
theorem Qpy : Q0 Tryz.prog 108 Qjc = true := by kernel_rfl
theorem Qu5 : Q0 Tryz.prog 109 Qk6 = true := by kernel_rfl
theorem Qlv : Q0 Tryz.prog 110 Qhg = true := by kernel_rfl
theorem Qq6 : Q0 Tryz.prog 111 Qig = true := by kernel_rfl
theorem Qsa : Q0 Tryz.prog 112 Qbv = true := by kernel_rfl
theorem Qnv : Q0 Tryz.prog 113 Qj4 = true := by kernel_rfl
theorem Qoc : Q0 Tryz.prog 114 Qdp = true := by kernel_rfl
theorem Qmm : Q0 Tryz.prog 115 Qg9 = true := by kernel_rfl
theorem Qqz : Q0 Tryz.prog 116 Qge = true := by kernel_rfl
theorem Qpp : Q0 Tryz.prog 133 Qix = true := by kernel_rfl
end
end Go.Av
namespace Go.Av
noncomputable section
open Go.Proofs
set_option maxRecDepth 100000
theorem Qlg : Q0 Tryz.prog 135 Qd8 = true := by kernel_rfl
theorem Qnj : Q0 Tryz.prog 138 Qi9 = true := by kernel_rfl
theorem Qn7 : Q0 Tryz.prog 139 Qdz = true := by kernel_rfl
theorem Qmd : Q0 Tryz.prog 140 Qff = true := by kernel_rfl
theorem Qpo : Q0 Tryz.prog 141 Qfy = true := by kernel_rfl
theorem Qns : Q0 Tryz.prog 142 Qh3 = true := by kernel_rfl
theorem Qrc : Q0 Tryz.prog 143 Qhj = true := by kernel_rfl
theorem Qsf : Q0 Tryz.prog 144 Qfj = true := by kernel_rfl
theorem Qpf : Q0 Tryz.prog 145 Qcy = true := by kernel_rfl
theorem Qlq : Q0 Tryz.prog 146 Qgn = true := by kernel_rfl
theorem Qru : Q0 Tryz.prog 147 Qhd = true := by kernel_rfl
theorem Qr4 : Q0 Tryz.prog 148 Qkx = true := by kernel_rfl
theorem Qp4 : Q0 Tryz.prog 149 Qkt = true := by kernel_rfl
theorem Qm6 : Q0 Tryz.prog 150 Qjf = true := by kernel_rfl
theorem Qs3 : Q0 Tryz.prog 151 Qe8 = true := by kernel_rfl
theorem Qnz : Q0 Tryz.prog 152 Qha = true := by kernel_rfl
theorem Qmq : Q0 Tryz.prog 153 Qfq = true := by kernel_rfl
theorem Qsk : Q0 Tryz.prog 154 Qcr = true := by kernel_rfl
theorem Qtv : Q0 Tryz.prog 155 Qh8 = true := by kernel_rfl
theorem Qpx : Q0 Tryz.prog 156 Qc2 = true := by kernel_rfl
theorem Qm3 : Q0 Tryz.prog 157 Qkm = true := by kernel_rfl
theorem Qqe : Q0 Tryz.prog 158 Qco = true := by kernel_rfl
theorem Qtg : Q0 Tryz.prog 159 Qkp = true := by kernel_rfl
theorem Qp2 : Q0 Tryz.prog 160 Qht = true := by kernel_rfl
theorem Qnm : Q0 Tryz.prog 161 Qhk = true := by kernel_rfl
theorem Qo0 : Q0 Tryz.prog 162 Qd9 = true := by kernel_rfl
theorem Qp6 : Q0 Tryz.prog 163 Qbo = true := by kernel_rfl
theorem Ql9 : Q0 Tryz.prog 164 Qep = true := by kernel_rfl
theorem Qpi : Q0 Tryz.prog 165 Qkl = true := by kernel_rfl
theorem Qu6 : Q0 Tryz.prog 166 Qkk = true := by kernel_rfl
theorem Qph : Q0 Tryz.prog 167 Qkg = true := by kernel_rfl
theorem Qna : Q0 Tryz.prog 168 Qh6 = true := by kernel_rfl
theorem Qm0 : Q0 Tryz.prog 169 Qef = true := by kernel_rfl
theorem Ql4 : Q0 Tryz.prog 170 Qdm = true := by kernel_rfl
theorem Qo9 : Q0 Tryz.prog 171 Qgi = true := by kernel_rfl
theorem Qqh : Q0 Tryz.prog 172 Qhw = true := by kernel_rfl
theorem Qmk : Q0 Tryz.prog 173 Qc4 = true := by kernel_rfl
theorem Qo4 : Q0 Tryz.prog 174 Qko = true := by kernel_rfl
theorem Qmu : Q0 Tryz.prog 175 Qdw = true := by kernel_rfl
theorem Qtr : Q0 Tryz.prog 176 Qjd = true := by kernel_rfl
theorem Qra : Q0 Tryz.prog 177 Qjv = true := by kernel_rfl
theorem Qqv : Q0 Tryz.prog 178 Qhb = true := by kernel_rfl
theorem Qmo : Q0 Tryz.prog 179 Qkz = true := by kernel_rfl
theorem Qqj : Q0 Tryz.prog 180 Qjh = true := by kernel_rfl
end
end Go.Av
namespace Go.Av
noncomputable section
open Go.Proofs
set_option maxRecDepth 100000
theorem Qlu : Q0 Tryz.prog 181 Qen = true := by kernel_rfl
theorem Qlw : Q0 Tryz.prog 182 Qh5 = true := by kernel_rfl
theorem Qpj : Q0 Tryz.prog 183 Qiy = true := by kernel_rfl
theorem Qp3 : Q0 Tryz.prog 184 Qjj = true := by kernel_rfl
theorem Qsg : Q0 Tryz.prog 185 Qev = true := by kernel_rfl
theorem Qt2 : Q0 Tryz.prog 186 Qbp = true := by kernel_rfl
theorem Qsc : Q0 Tryz.prog 187 Qg0 = true := by kernel_rfl
theorem Qu2 : Q0 Tryz.prog 188 Qg1 = true := by kernel_rfl
theorem Qo8 : Q0 Tryz.prog 189 Qij = true := by kernel_rfl
theorem Qtc : Q0 Tryz.prog 190 Qf9 = true := by kernel_rfl
theorem Qu4 : Q0 Tryz.prog 191 Qfe = true := by kernel_rfl
theorem Qt0 : Q0 Tryz.prog 192 Qdu = true := by kernel_rfl
theorem Qpt : Q0 Tryz.prog 193 Qgw = true := by kernel_rfl
theorem Qlr : Q0 Tryz.prog 194 Qg6 = true := by kernel_rfl
theorem Qsh : Q0 Tryz.prog 195 Qcv = true := by kernel_rfl
theorem Qu1 : Q0 Tryz.prog 196 Qf7 = true := by kernel_rfl
theorem Qri : Q0 Tryz.prog 197 Qj1 = true := by kernel_rfl
theorem Qre : Q0 Tryz.prog 198 Qi1 = true := by kernel_rfl
theorem Qm9 : Q0 Tryz.prog 199 Qk0 = true := by kernel_rfl
theorem Qtd : Q0 Tryz.prog 200 Qkc = true := by kernel_rfl
theorem Qn6 : Q0 Tryz.prog 201 Qjq = true := by kernel_rfl
theorem Qo7 : Q0 Tryz.prog 202 Qh4 = true := by kernel_rfl
theorem Qq4 : Q0 Tryz.prog 203 Qdn = true := by kernel_rfl
theorem Qo6 : Q0 Tryz.prog 204 Qip = true := by kernel_rfl
theorem Qpb : Q0 Tryz.prog 205 Qdr = true := by kernel_rfl
theorem Qt8 : Q0 Tryz.prog 206 Qj8 = true := by kernel_rfl
theorem Qnd : Q0 Tryz.prog 207 Qie = true := by kernel_rfl
theorem Qnf : Q0 Tryz.prog 208 Qex = true := by kernel_rfl
theorem Qtq : Q0 Tryz.prog 209 Qki = true := by kernel_rfl
theorem Qpq : Q0 Tryz.prog 210 Qc9 = true := by kernel_rfl
theorem Qq1 : Q0 Tryz.prog 211 Qf8 = true := by kernel_rfl
theorem Qpm : Q0 Tryz.prog 212 Qet = true := by kernel_rfl
theorem Qlm : Q0 Tryz.prog 213 Qfp = true := by kernel_rfl
theorem Qpk : Q0 Tryz.prog 214 Qj6 = true := by kernel_rfl
theorem Qt3 : Q0 Tryz.prog 215 Qiw = true := by kernel_rfl
theorem Qu8 : Q0 Tryz.prog 216 Qgx = true := by kernel_rfl
theorem Qnl : Q0 Tryz.prog 217 Qfs = true := by kernel_rfl
theorem Qog : Q0 Tryz.prog 218 Qc6 = true := by kernel_rfl
theorem Qrf : Q0 Tryz.prog 219 Qgs = true := by kernel_rfl
end
end Go.Av
namespace Go.Av
noncomputable section
open Go.Proofs
set_option maxRecDepth 100000
theorem Qq7 : Q0 Tryz.prog 220 Qej = true := by kernel_rfl
theorem Qlk : Q0 Tryz.prog 221 Qce = true := by kernel_rfl
theorem Qq3 : Q0 Tryz.prog 222 Qku = true := by kernel_rfl
theorem Qso : Q0 Tryz.prog 223 Qcm = true := by kernel_rfl
theorem Qpd : Q0 Tryz.prog 224 Qem = true := by kernel_rfl
theorem Qs0 : Q0 Tryz.prog 225 Qdb = true := by kernel_rfl
theorem Qob : Q0 Tryz.prog 226 Qg3 = true := by kernel_rfl
theorem Qrg : Q0 Tryz.prog 227 Qgp = true := by kernel_rfl
theorem Qmr : Q0 Tryz.prog 228 Qeq = true := by kernel_rfl
theorem Qqp : Q0 Tryz.prog 229 Qdq = true := by kernel_rfl
theorem Qrl : Q0 Tryz.prog 230 Qh1 = true := by kernel_rfl
theorem Qpz : Q0 Tryz.prog 231 Qkh = true := by kernel_rfl
theorem Qm4 : Q0 Tryz.prog 232 Qf4 = true := by kernel_rfl
theorem Qms : Q0 Tryz.prog 233 Qbt = true := by kernel_rfl
theorem Qta : Q0 Tryz.prog 234 Qec = true := by kernel_rfl
theorem Qsm : Q0 Tryz.prog 235 Qbw = true := by kernel_rfl
theorem Qsx : Q0 Tryz.prog 236 Qhm = true := by kernel_rfl
theorem Ql1 : Q0 Tryz.prog 237 Qin = true := by kernel_rfl
theorem Qtw : Q0 Tryz.prog 238 Qbu = true := by kernel_rfl
theorem Qo3 : Q0 Tryz.prog 239 Qeg = true := by kernel_rfl
theorem Qml : Q0 Tryz.prog 240 Qik = true := by kernel_rfl
theorem Qs7 : Q0 Tryz.prog 241 Qgj = true := by kernel_rfl
theorem Qop : Q0 Tryz.prog 242 Qgm = true := by kernel_rfl
theorem Qqs : Q0 Tryz.prog 243 Qjr = true := by kernel_rfl
theorem Qpl : Q0 Tryz.prog 244 Qkd = true := by kernel_rfl
theorem Qqf : Q0 Tryz.prog 245 Qjk = true := by kernel_rfl
theorem Qpv : Q0 Tryz.prog 246 Qil = true := by kernel_rfl
theorem Qte : Q0 Tryz.prog 247 Qic = true := by kernel_rfl
theorem Qr2 : Q0 Tryz.prog 248 Qgl = true := by kernel_rfl
theorem Qmz : Q0 Tryz.prog 249 Qhs = true := by kernel_rfl
theorem Qtu : Q0 Tryz.prog 250 Qjw = true := by kernel_rfl
theorem Qp9 : Q0 Tryz.prog 251 Qf3 = true := by kernel_rfl
theorem Qlb : Q0 Tryz.prog 252 Qcq = true := by kernel_rfl
theorem Qrx : Q0 Tryz.prog 253 Qdc = true := by kernel_rfl
theorem Qmj : Q0 Tryz.prog 254 Qeh = true := by kernel_rfl
theorem Qmp : Q0 Tryz.prog 255 Qgv = true := by kernel_rfl
theorem Qtl : Q0 Tryz.prog 256 Qgc = true := by kernel_rfl
theorem Qpc : Q0 Tryz.prog 257 Qe4 = true := by kernel_rfl
theorem Qne : Q0 Tryz.prog 258 Qcx = true := by kernel_rfl
theorem Qli : Q0 Tryz.prog 259 Qkw = true := by kernel_rfl
theorem Qrz : Q0 Tryz.prog 260 Qd5 = true := by kernel_rfl
theorem Qsr : Q0 Tryz.prog 261 Qfv = true := by kernel_rfl
theorem Qtj : Q0 Tryz.prog 262 Qdx = true := by kernel_rfl
theorem Qm2 : Q0 Tryz.prog 263 Qhv = true := by kernel_rfl
theorem Ql2 : Q0 Tryz.prog 264 Qe0 = true := by kernel_rfl
theorem Qqu : Q0 Tryz.prog 265 Qjs = true := by kernel_rfl
theorem Ql0 : Q0 Tryz.prog 266 Qbx = true := by kernel_rfl
theorem Qox : Q0 Tryz.prog 267 Qjx = true := by kernel_rfl
theorem Qrt : Q0 Tryz.prog 268 Qit = true := by kernel_rfl
theorem Qqa : Q0 Tryz.prog 269 Qiz = true := by kernel_rfl
theorem Qov : Q0 Tryz.prog 270 Qhf = true := by kernel_rfl
theorem Qnh : Q0 Tryz.prog 271 Qk1 = true := by kernel_rfl
theorem Qt7 : Q0 Tryz.prog 272 Qia = true := by kernel_rfl
theorem Qr6 : Q0 Tryz.prog 273 Qhh = true := by kernel_rfl
theorem Qsq : Q0 Tryz.prog 274 Qkn = true := by kernel_rfl
theorem Qoq : Q0 Tryz.prog 275 Qbs = true := by kernel_rfl
theorem Qsd : Q0 Tryz.prog 276 Qjg = true := by kernel_rfl
theorem Qtb : Q0 Tryz.prog 277 Qjy = true := by kernel_rfl
end
end Go.Av
namespace Go.Av
noncomputable section
open Go.Proofs
set_option maxRecDepth 100000
theorem Qmn : Q0 Tryz.prog 278 Qg7 = true := by kernel_rfl
theorem Qqb : Q0 Tryz.prog 279 Qc0 = true := by kernel_rfl
theorem Qqt : Q0 Tryz.prog 280 Qk2 = true := by kernel_rfl
theorem Qr7 : Q0 Tryz.prog 281 Qi0 = true := by kernel_rfl
theorem Qlh : Q0 Tryz.prog 282 Qez = true := by kernel_rfl
theorem Qty : Q0 Tryz.prog 283 Qkr = true := by kernel_rfl
theorem Qln : Q0 Tryz.prog 284 Qgf = true := by kernel_rfl
theorem Qpw : Q0 Tryz.prog 285 Qea = true := by kernel_rfl
theorem Qla : Q0 Tryz.prog 286 Qhx = true := by kernel_rfl
theorem Qqg : Q0 Tryz.prog 287 Qfx = true := by kernel_rfl
theorem Ql5 : Q0 Tryz.prog 288 Qiq = true := by kernel_rfl
theorem Qmi : Q0 Tryz.prog 289 Qey = true := by kernel_rfl
theorem Qs2 : Q0 Tryz.prog 290 Qd0 = true := by kernel_rfl
theorem Qll : Q0 Tryz.prog 291 Qir = true := by kernel_rfl
theorem Qmv : Q0 Tryz.prog 292 Qds = true := by kernel_rfl
theorem Qs5 : Q0 Tryz.prog 293 Qfi = true := by kernel_rfl
theorem Qlo : Q0 Tryz.prog 294 Qek = true := by kernel_rfl
theorem Qua : Q0 Tryz.prog 295 Qcd = true := by kernel_rfl
theorem Qqk : Q0 Tryz.prog 296 Qho = true := by kernel_rfl
theorem Qom : Q0 Tryz.prog 297 Qj0 = true := by kernel_rfl
theorem Qon : Q0 Tryz.prog 300 Qjz = true := by kernel_rfl
theorem Qpe : Q0 Tryz.prog 301 Qbq = true := by kernel_rfl
theorem Qof : Q0 Tryz.prog 302 Qhn = true := by kernel_rfl
theorem Qp1 : Q0 Tryz.prog 303 Qky = true := by kernel_rfl
theorem Qrw : Q0 Tryz.prog 304 Qg2 = true := by kernel_rfl
theorem Qqx : Q0 Tryz.prog 305 Qg8 = true := by kernel_rfl
theorem Qrs : Q0 Tryz.prog 306 Qft = true := by kernel_rfl
theorem Qle : Q0 Tryz.prog 307 Qjb = true := by kernel_rfl
theorem Qod : Q0 Tryz.prog 309 Qdt = true := by kernel_rfl
theorem Qlx : Q0 Tryz.prog 310 Qbz = true := by kernel_rfl
theorem Qsn : Q0 Tryz.prog 311 Qhq = true := by kernel_rfl
theorem Ql7 : Q0 Tryz.prog 312 Qga = true := by kernel_rfl
theorem Qos : Q0 Tryz.prog 313 Qje = true := by kernel_rfl
theorem Qsv : Q0 Tryz.prog 314 Qf6 = true := by kernel_rfl
theorem Qmh : Q0 Tryz.prog 315 Qis = true := by kernel_rfl
theorem Qtz : Q0 Tryz.prog 316 Qf1 = true := by kernel_rfl
theorem Qqy : Q0 Tryz.prog 318 Qid = true := by kernel_rfl
theorem Qp0 : Q0 Tryz.prog 320 Qgh = true := by kernel_rfl
theorem Qly : Q0 Tryz.prog 321 Qhl = true := by kernel_rfl
theorem Qrj : Q0 Tryz.prog 323 Qfl = true := by kernel_rfl
theorem Qld : Q0 Tryz.prog 326 Qg5 = true := by kernel_rfl
theorem Qt5 : Q0 Tryz.prog 327 Qci = true := by kernel_rfl
theorem Qnb : Q0 Tryz.prog 328 Qke = true := by kernel_rfl
end
end Go.Av
namespace Go.Av
noncomputable section
open Go.Proofs
set_option maxRecDepth 100000
theorem Qsl : Q0 Tryz.prog 329 Qbr = true := by kernel_rfl
theorem Qq9 : Q0 Tryz.prog 330 Qk7 = true := by kernel_rfl
theorem Qlc : Q0 Tryz.prog 331 Qj9 = true := by kernel_rfl
theorem Qr8 : Q0 Tryz.prog 332 Qdf = true := by kernel_rfl
theorem Qrd : Q0 Tryz.prog 333 Qfu = true := by kernel_rfl
theorem Qst : Q0 Tryz.prog 334 Qi5 = true := by kernel_rfl
theorem Qu0 : Q0 Tryz.prog 335 Qhy = true := by kernel_rfl
theorem Qn2 : Q0 Tryz.prog 336 Qew = true := by kernel_rfl
theorem Qng : Q0 Tryz.prog 337 Qf0 = true := by kernel_rfl
theorem Qp5 : Q0 Tryz.prog 338 Qeo = true := by kernel_rfl
theorem Qto : Q0 Tryz.prog 339 Qfr = true := by kernel_rfl
theorem Qni : Q0 Tryz.prog 340 Qi2 = true := by kernel_rfl
theorem Qt9 : Q0 Tryz.prog 341 Qj5 = true := by kernel_rfl
theorem Qq0 : Q0 Tryz.prog 342 Qck = true := by kernel_rfl
theorem Qnn : Q0 Tryz.prog 343 Qgz = true := by kernel_rfl
theorem Qqq : Q0 Tryz.prog 344 Qc1 = true := by kernel_rfl
theorem Qse : Q0 Tryz.prog 345 Qcu = true := by kernel_rfl
theorem Qoo : Q0 Tryz.prog 346 Qes = true := by kernel_rfl
theorem Qow : Q0 Tryz.prog 347 Qii = true := by kernel_rfl
theorem Qry : Q0 Tryz.prog 348 Qdj = true := by kernel_rfl
theorem Qqc : Q0 Tryz.prog 349 Qi7 = true := by kernel_rfl
theorem Qrp : Q0 Tryz.prog 350 Qkj = true := by kernel_rfl
theorem Qnr : Q0 Tryz.prog 351 Qib = true := by kernel_rfl
theorem Qtx : Q0 Tryz.prog 352 Qh2 = true := by kernel_rfl
theorem Qts : Q0 Tryz.prog 353 Qk3 = true := by kernel_rfl
theorem Qmb : Q0 Tryz.prog 354 Qcs = true := by kernel_rfl
theorem Qmx : Q0 Tryz.prog 355 Qkq = true := by kernel_rfl
theorem Qtn : Q0 Tryz.prog 356 Qjl = true := by kernel_rfl
theorem Qnu : Q0 Tryz.prog 357 Qcl = true := by kernel_rfl
theorem Qr3 : Q0 Tryz.prog 358 Qk4 = true := by kernel_rfl
theorem Qou : Q0 Tryz.prog 359 Qbn = true := by kernel_rfl
theorem Qu3 : Q0 Tryz.prog 360 Qfg = true := by kernel_rfl
theorem Qr5 : Q0 Tryz.prog 361 Qkb = true := by kernel_rfl
theorem Qtm : Q0 Tryz.prog 362 Qif = true := by kernel_rfl
theorem Qtk : Q0 Tryz.prog 363 Qc3 = true := by kernel_rfl
theorem Qqd : Q0 Tryz.prog 364 Qd2 = true := by kernel_rfl
theorem Qps : Q0 Tryz.prog 365 Qde = true := by kernel_rfl
theorem Qnk : Q0 Tryz.prog 366 Qe5 = true := by kernel_rfl
theorem Qo1 : Q0 Tryz.prog 367 Qk9 = true := by kernel_rfl
theorem Qqi : Q0 Tryz.prog 368 Qe1 = true := by kernel_rfl
theorem Qlj : Q0 Tryz.prog 369 Qkf = true := by kernel_rfl
theorem Qq2 : Q0 Tryz.prog 370 Qgr = true := by kernel_rfl
theorem Qny : Q0 Tryz.prog 371 Qh7 = true := by kernel_rfl
theorem Qsu : Q0 Tryz.prog 372 Qct = true := by kernel_rfl
theorem Qoz : Q0 Tryz.prog 373 Qgk = true := by kernel_rfl
theorem Qmg : Q0 Tryz.prog 374 Qjm = true := by kernel_rfl
theorem Qs8 : Q0 Tryz.prog 375 Qdl = true := by kernel_rfl
theorem Qth : Q0 Tryz.prog 376 Qgb = true := by kernel_rfl
theorem Qnt : Q0 Tryz.prog 377 Qja = true := by kernel_rfl
theorem Qnc : Q0 Tryz.prog 378 Qee = true := by kernel_rfl
theorem Qmc : Q0 Tryz.prog 379 Qd4 = true := by kernel_rfl
theorem Qoi : Q0 Tryz.prog 380 Qdg = true := by kernel_rfl
theorem Qpn : Q0 Tryz.prog 381 Qiv = true := by kernel_rfl
theorem Qt1 : Q0 Tryz.prog 382 Qhz = true := by kernel_rfl
theorem Qm1 : Q0 Tryz.prog 383 Qiu = true := by kernel_rfl
theorem Qoh : Q0 Tryz.prog 384 Qcz = true := by kernel_rfl
theorem Qo5 : Q0 Tryz.prog 385 Qe9 = true := by kernel_rfl
theorem Qo2 : Q0 Tryz.prog 386 Qe3 = true := by kernel_rfl
theorem Qtf : Q0 Tryz.prog 387 Qc7 = true := by kernel_rfl
theorem Qnp : Q0 Tryz.prog 388 Qgq = true := by kernel_rfl
theorem Qqm : Q0 Tryz.prog 389 Qjn = true := by kernel_rfl
theorem Qp7 : Q0 Tryz.prog 390 Qeb = true := by kernel_rfl
end
end Go.Av
namespace Go.Av
noncomputable section
open Go.Proofs
set_option maxRecDepth 100000
theorem Qmy : Q0 Tryz.prog 391 Qeu = true := by kernel_rfl
theorem Qsj : Q0 Tryz.prog 392 Qei = true := by kernel_rfl
theorem Qtp : Q0 Tryz.prog 393 Qks = true := by kernel_rfl
theorem Qs4 : Q0 Tryz.prog 394 Qcf = true := by kernel_rfl
theorem Qoe : Q0 Tryz.prog 395 Qcg = true := by kernel_rfl
theorem Qrb : Q0 Tryz.prog 396 Qdd = true := by kernel_rfl
theorem Qsy : Q0 Tryz.prog 399 Qgd = true := by kernel_rfl
theorem Qnq : Q0 Tryz.prog 400 Qgu = true := by kernel_rfl
theorem Qlz : Q0 Tryz.prog 401 Qfk = true := by kernel_rfl
theorem Qn5 : Q0 Tryz.prog 402 Qcn = true := by kernel_rfl
theorem Qro : Q0 Tryz.prog 403 Qhi = true := by kernel_rfl
theorem Qor : Q0 Tryz.prog 404 Qih = true := by kernel_rfl
theorem Ql3 : Q0 Tryz.prog 405 Qk8 = true := by kernel_rfl
theorem Qrm : Q0 Tryz.prog 406 Qim = true := by kernel_rfl
theorem Qsz : Q0 Tryz.prog 407 Qdh = true := by kernel_rfl
theorem Qm5 : Q0 Tryz.prog 408 Qi4 = true := by kernel_rfl
theorem Qme : Q0 Tryz.prog 409 Qd1 = true := by kernel_rfl
theorem Qp8 : Q0 Tryz.prog 410 Qjo = true := by kernel_rfl
theorem Qls : Q0 Tryz.prog 411 Qfm = true := by kernel_rfl
theorem Qn4 : Q0 Tryz.prog 412 Qd3 = true := by kernel_rfl
theorem Qma : Q0 Tryz.prog 413 Qdi = true := by kernel_rfl
theorem Qu9 : Q0 Tryz.prog 414 Qfo = true := by kernel_rfl
theorem Qpg : Q0 Tryz.prog 415 Qfw = true := by kernel_rfl
theorem Qmf : Q0 Tryz.prog 416 Qh0 = true := by kernel_rfl
theorem Qrk : Q0 Tryz.prog 417 Qd6 = true := by kernel_rfl
theorem Qqw : Q0 Tryz.prog 418 Qf5 = true := by kernel_rfl
theorem Qt4 : Q0 Tryz.prog 419 Qio = true := by kernel_rfl
theorem Qpa : Q0 Tryz.prog 420 Qhr = true := by kernel_rfl
theorem Qlf : Q0 Tryz.prog 421 Qer = true := by kernel_rfl
theorem Qm7 : Q0 Tryz.prog 422 Qfz = true := by kernel_rfl
theorem Qno : Q0 Tryz.prog 423 Qel = true := by kernel_rfl
theorem Qn8 : Q0 Tryz.prog 424 Qk5 = true := by kernel_rfl
theorem Qoa : Q0 Tryz.prog 425 Qe2 = true := by kernel_rfl
theorem Qmw : Q0 Tryz.prog 426 Qed = true := by kernel_rfl
theorem Qu7 : Q0 Tryz.prog 427 Qcb = true := by kernel_rfl
theorem Qpu : Q0 Tryz.prog 428 Qgg = true := by kernel_rfl
theorem Ql6 : Q0 Tryz.prog 429 Qj3 = true := by kernel_rfl
theorem Qnx : Q0 Tryz.prog 430 Qj2 = true := by kernel_rfl
theorem Qqn : Q0 Tryz.prog 431 Qe6 = true := by kernel_rfl
theorem Qok : Q0 Tryz.prog 432 Qju = true := by kernel_rfl
end
end Go.Av
namespace Go.Av
noncomputable section
open Go.Proofs
set_option maxRecDepth 100000
theorem Qol : Q0 Tryz.prog 433 Qkv = true := by kernel_rfl
theorem Qql : Q0 Tryz.prog 434 Qhc = true := by kernel_rfl
theorem Qnw : Q0 Tryz.prog 435 Qda = true := by kernel_rfl
theorem Qlt : Q0 Tryz.prog 436 Qch = true := by kernel_rfl
theorem Qqr : Q0 Tryz.prog 437 Qfn = true := by kernel_rfl
theorem Qoy : Q0 Tryz.prog 438 Qca = true := by kernel_rfl
theorem Qq8 : Q0 Tryz.prog 439 Qka = true := by kernel_rfl
theorem Qlp : Q0 Tryz.prog 442 Qfc = true := by kernel_rfl
theorem Qtt : Q0 Tryz.prog 444 Qcp = true := by kernel_rfl
theorem Qs9 : Q0 Tryz.prog 445 Qby = true := by kernel_rfl
theorem Qr0 : Q0 Tryz.prog 446 Qg4 = true := by kernel_rfl
theorem Qsw : Q0 Tryz.prog 447 Qgo = true := by kernel_rfl
theorem Qn0 : Q0 Tryz.prog 448 Qc8 = true := by kernel_rfl
theorem Qoj : Q0 Tryz.prog 451 Qhe = true := by kernel_rfl
theorem Qr1 : Q0 Tryz.prog 453 Qjp = true := by kernel_rfl
theorem Qot : Q0 Tryz.prog 454 Qhp = true := by kernel_rfl
theorem Ql8 : Q0 Tryz.prog 455 Qdk = true := by kernel_rfl
theorem Qq5 : Q0 Tryz.prog 456 Qd7 = true := by kernel_rfl
theorem Qti : Q0 Tryz.prog 458 Qjt = true := by kernel_rfl
theorem Qss : Q0 Tryz.prog 460 Qhu = true := by kernel_rfl
end
end Go.Av

