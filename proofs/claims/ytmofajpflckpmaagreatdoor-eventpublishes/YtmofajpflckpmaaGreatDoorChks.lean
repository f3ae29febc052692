/- The law. Part of a proof of a given statement: for every input the law returns true and the arguments read as before; no condition beyond the given row. -/
import Derived.Test.YtmofajpflckpmaaGreatDoorCode1
import Derived.Test.YtmofajpflckpmaaGreatDoorAvChk
import Derived.KernelRfl
import Derived.Test.YtmofajpflckpmaaGreatDoorProg
namespace Go.Av
noncomputable section
open Go.Proofs
set_option maxRecDepth 100000
theorem k3 : Q0 Tryz.prog 3 c3 = true := by kernel_rfl
theorem k4 : Q0 Tryz.prog 4 c4 = true := by kernel_rfl
theorem k5 : Q0 Tryz.prog 5 c5 = true := by kernel_rfl
theorem k6 : Q0 Tryz.prog 6 c6 = true := by kernel_rfl
theorem k7 : Q0 Tryz.prog 7 c7 = true := by kernel_rfl
theorem k8 : Q0 Tryz.prog 8 c8 = true := by kernel_rfl
theorem k9 : Q0 Tryz.prog 9 c9 = true := by kernel_rfl
theorem k10 : Q0 Tryz.prog 10 c10 = true := by kernel_rfl
theorem k11 : Q0 Tryz.prog 11 c11 = true := by kernel_rfl
theorem k12 : Q0 Tryz.prog 12 c12 = true := by kernel_rfl
theorem k13 : Q0 Tryz.prog 13 c13 = true := by kernel_rfl
theorem k14 : Q0 Tryz.prog 14 c14 = true := by kernel_rfl
theorem k15 : Q0 Tryz.prog 15 c15 = true := by kernel_rfl
theorem k16 : Q0 Tryz.prog 16 c16 = true := by kernel_rfl
theorem k17 : Q0 Tryz.prog 17 c17 = true := by kernel_rfl
theorem k18 : Q0 Tryz.prog 18 c18 = true := by kernel_rfl
theorem k19 : Q0 Tryz.prog 19 c19 = true := by kernel_rfl
theorem k20 : Q0 Tryz.prog 20 c20 = true := by kernel_rfl
theorem k21 : Q0 Tryz.prog 21 c21 = true := by kernel_rfl
theorem k22 : Q0 Tryz.prog 22 c22 = true := by kernel_rfl
theorem k23 : Q0 Tryz.prog 23 c23 = true := by kernel_rfl
theorem k24 : Q0 Tryz.prog 24 c24 = true := by kernel_rfl
theorem k25 : Q0 Tryz.prog 25 c25 = true := by kernel_rfl
theorem k26 : Q0 Tryz.prog 26 c26 = true := by kernel_rfl
theorem k27 : Q0 Tryz.prog 27 c27 = true := by kernel_rfl
theorem k28 : Q0 Tryz.prog 28 c28 = true := by kernel_rfl
theorem k29 : Q0 Tryz.prog 29 c29 = true := by kernel_rfl
theorem k30 : Q0 Tryz.prog 30 c30 = true := by kernel_rfl
theorem k31 : Q0 Tryz.prog 31 c31 = true := by kernel_rfl
theorem k32 : Q0 Tryz.prog 32 c32 = true := by kernel_rfl
theorem k33 : Q0 Tryz.prog 33 c33 = true := by kernel_rfl
theorem k34 : Q0 Tryz.prog 34 c34 = true := by kernel_rfl
theorem k35 : Q0 Tryz.prog 35 c35 = true := by kernel_rfl
theorem k36 : Q0 Tryz.prog 36 c36 = true := by kernel_rfl
theorem k37 : Q0 Tryz.prog 37 c37 = true := by kernel_rfl
theorem k38 : Q0 Tryz.prog 38 c38 = true := by kernel_rfl
theorem k39 : Q0 Tryz.prog 39 c39 = true := by kernel_rfl
theorem k40 : Q0 Tryz.prog 40 c40 = true := by kernel_rfl
theorem k41 : Q0 Tryz.prog 41 c41 = true := by kernel_rfl
theorem k42 : Q0 Tryz.prog 42 c42 = true := by kernel_rfl
theorem k43 : Q0 Tryz.prog 43 c43 = true := by kernel_rfl
theorem k44 : Q0 Tryz.prog 44 c44 = true := by kernel_rfl
theorem k45 : Q0 Tryz.prog 45 c45 = true := by kernel_rfl
theorem k46 : Q0 Tryz.prog 46 c46 = true := by kernel_rfl
theorem k47 : Q0 Tryz.prog 47 c47 = true := by kernel_rfl
theorem k48 : Q0 Tryz.prog 48 c48 = true := by kernel_rfl
theorem k49 : Q0 Tryz.prog 49 c49 = true := by kernel_rfl
theorem k50 : Q0 Tryz.prog 50 c50 = true := by kernel_rfl
theorem k51 : Q0 Tryz.prog 51 c51 = true := by kernel_rfl
theorem k52 : Q0 Tryz.prog 52 c52 = true := by kernel_rfl
end
end Go.Av
namespace Go.Av
noncomputable section
open Go.Proofs
set_option maxRecDepth 100000
theorem k53 : Q0 Tryz.prog 53 c53 = true := by kernel_rfl
theorem k54 : Q0 Tryz.prog 54 c54 = true := by kernel_rfl
theorem k55 : Q0 Tryz.prog 55 c55 = true := by kernel_rfl
theorem k56 : Q0 Tryz.prog 56 c56 = true := by kernel_rfl
theorem k57 : Q0 Tryz.prog 57 c57 = true := by kernel_rfl
theorem k58 : Q0 Tryz.prog 58 c58 = true := by kernel_rfl
theorem k59 : Q0 Tryz.prog 59 c59 = true := by kernel_rfl
theorem k60 : Q0 Tryz.prog 60 c60 = true := by kernel_rfl
theorem k61 : Q0 Tryz.prog 61 c61 = true := by kernel_rfl
theorem k62 : Q0 Tryz.prog 62 c62 = true := by kernel_rfl
theorem k63 : Q0 Tryz.prog 63 c63 = true := by kernel_rfl
theorem k64 : Q0 Tryz.prog 64 c64 = true := by kernel_rfl
theorem k65 : Q0 Tryz.prog 65 c65 = true := by kernel_rfl
theorem k66 : Q0 Tryz.prog 66 c66 = true := by kernel_rfl
theorem k67 : Q0 Tryz.prog 67 c67 = true := by kernel_rfl
theorem k68 : Q0 Tryz.prog 68 c68 = true := by kernel_rfl
theorem k69 : Q0 Tryz.prog 69 c69 = true := by kernel_rfl
theorem k70 : Q0 Tryz.prog 70 c70 = true := by kernel_rfl
theorem k71 : Q0 Tryz.prog 71 c71 = true := by kernel_rfl
theorem k72 : Q0 Tryz.prog 72 c72 = true := by kernel_rfl
theorem k73 : Q0 Tryz.prog 73 c73 = true := by kernel_rfl
theorem k74 : Q0 Tryz.prog 74 c74 = true := by kernel_rfl
theorem k75 : Q0 Tryz.prog 75 c75 = true := by kernel_rfl
theorem k76 : Q0 Tryz.prog 76 c76 = true := by kernel_rfl
theorem k77 : Q0 Tryz.prog 77 c77 = true := by kernel_rfl
theorem k78 : Q0 Tryz.prog 78 c78 = true := by kernel_rfl
theorem k79 : Q0 Tryz.prog 79 c79 = true := by kernel_rfl
theorem k80 : Q0 Tryz.prog 80 c80 = true := by kernel_rfl
theorem k81 : Q0 Tryz.prog 81 c81 = true := by kernel_rfl
theorem k82 : Q0 Tryz.prog 82 c82 = true := by kernel_rfl
theorem k83 : Q0 Tryz.prog 83 c83 = true := by kernel_rfl
theorem k84 : Q0 Tryz.prog 84 c84 = true := by kernel_rfl
theorem k85 : Q0 Tryz.prog 85 c85 = true := by kernel_rfl
theorem k86 : Q0 Tryz.prog 86 c86 = true := by kernel_rfl
theorem k87 : Q0 Tryz.prog 87 c87 = true := by kernel_rfl
theorem k88 : Q0 Tryz.prog 88 c88 = true := by kernel_rfl
theorem k89 : Q0 Tryz.prog 89 c89 = true := by kernel_rfl
theorem k90 : Q0 Tryz.prog 90 c90 = true := by kernel_rfl
theorem k91 : Q0 Tryz.prog 91 c91 = true := by kernel_rfl
theorem k92 : Q0 Tryz.prog 92 c92 = true := by kernel_rfl
theorem k93 : Q0 Tryz.prog 93 c93 = true := by kernel_rfl
theorem k94 : Q0 Tryz.prog 94 c94 = true := by kernel_rfl
theorem k95 : Q0 Tryz.prog 95 c95 = true := by kernel_rfl
theorem k96 : Q0 Tryz.prog 96 c96 = true := by kernel_rfl
theorem k97 : Q0 Tryz.prog 97 c97 = true := by kernel_rfl
theorem k98 : Q0 Tryz.prog 98 c98 = true := by kernel_rfl
theorem k99 : Q0 Tryz.prog 99 c99 = true := by kernel_rfl
theorem Qss : Q0 Tryz.prog 100 Qju = true := by kernel_rfl
end
end Go.Av
namespace Go.Av
noncomputable section
open Go.Proofs
set_option maxRecDepth 100000
theorem Qrb : Q0 Tryz.prog 101 Qmc = true := by kernel_rfl
theorem Qv8 : Q0 Tryz.prog 102 Qmz = true := by kernel_rfl
theorem Qra : Q0 Tryz.prog 103 Qk0 = true := by kernel_rfl
theorem Qv5 : Q0 Tryz.prog 104 Qna = true := by kernel_rfl
theorem Qx7 : Q0 Tryz.prog 105 Qop = true := by kernel_rfl
theorem Qxj : Q0 Tryz.prog 106 Ql4 = true := by kernel_rfl
theorem Qt2 : Q0 Tryz.prog 107 Qo0 = true := by kernel_rfl
theorem Qtu : Q0 Tryz.prog 108 Qlx = true := by kernel_rfl
theorem Qwf : Q0 Tryz.prog 109 Qjt = true := by kernel_rfl
theorem Qsi : Q0 Tryz.prog 110 Qqg = true := by kernel_rfl
theorem Qqu : Q0 Tryz.prog 111 Qp4 = true := by kernel_rfl
theorem Qjw : Q0 Tryz.prog 112 Qm7 = true := by kernel_rfl
theorem Qps : Q0 Tryz.prog 113 Qm2 = true := by kernel_rfl
theorem Qxp : Q0 Tryz.prog 114 Qmh = true := by kernel_rfl
theorem Qjk : Q0 Tryz.prog 116 Qkg = true := by kernel_rfl
theorem Qu9 : Q0 Tryz.prog 117 Qp3 = true := by kernel_rfl
theorem Qwo : Q0 Tryz.prog 118 Qkw = true := by kernel_rfl
theorem Qvo : Q0 Tryz.prog 119 Qmi = true := by kernel_rfl
theorem Qjp : Q0 Tryz.prog 120 Qpz = true := by kernel_rfl
theorem Qwd : Q0 Tryz.prog 121 Qpe = true := by kernel_rfl
theorem Qti : Q0 Tryz.prog 122 Qoz = true := by kernel_rfl
theorem Qry : Q0 Tryz.prog 123 Qq5 = true := by kernel_rfl
theorem Qtd : Q0 Tryz.prog 124 Qmr = true := by kernel_rfl
theorem Qvn : Q0 Tryz.prog 125 Qog = true := by kernel_rfl
theorem Qsm : Q0 Tryz.prog 126 Qne = true := by kernel_rfl
theorem Qtv : Q0 Tryz.prog 127 Qqs = true := by kernel_rfl
theorem Qt9 : Q0 Tryz.prog 128 Qjr = true := by kernel_rfl
theorem Qwl : Q0 Tryz.prog 129 Qnv = true := by kernel_rfl
theorem Qrx : Q0 Tryz.prog 130 Qkh = true := by kernel_rfl
theorem Qt8 : Q0 Tryz.prog 131 Qor = true := by kernel_rfl
theorem Qty : Q0 Tryz.prog 132 Qlj = true := by kernel_rfl
theorem Qud : Q0 Tryz.prog 133 Qo4 = true := by kernel_rfl
theorem Qxa : Q0 Tryz.prog 134 Qq0 = true := by kernel_rfl
theorem Qw0 : Q0 Tryz.prog 135 Qlr = true := by kernel_rfl
theorem Qv9 : Q0 Tryz.prog 136 Qou = true := by kernel_rfl
theorem Qxm : Q0 Tryz.prog 137 Qk5 = true := by kernel_rfl
theorem Qx6 : Q0 Tryz.prog 138 Qlg = true := by kernel_rfl
theorem Qxl : Q0 Tryz.prog 139 Qlw = true := by kernel_rfl
theorem Qtq : Q0 Tryz.prog 140 Qma = true := by kernel_rfl
theorem Qsf : Q0 Tryz.prog 141 Ql7 = true := by kernel_rfl
theorem Qto : Q0 Tryz.prog 142 Qmj = true := by kernel_rfl
theorem Qx2 : Q0 Tryz.prog 143 Qlf = true := by kernel_rfl
theorem Qrq : Q0 Tryz.prog 144 Qmu = true := by kernel_rfl
theorem Qrd : Q0 Tryz.prog 145 Qla = true := by kernel_rfl
theorem Ql9 : Q0 Tryz.prog 146 Qjx = true := by kernel_rfl
end
end Go.Av
namespace Go.Av
noncomputable section
open Go.Proofs
set_option maxRecDepth 100000
theorem Qrt : Q0 Tryz.prog 147 Qkx = true := by kernel_rfl
theorem Qu1 : Q0 Tryz.prog 148 Qke = true := by kernel_rfl
theorem Qur : Q0 Tryz.prog 149 Qng = true := by kernel_rfl
theorem Qt6 : Q0 Tryz.prog 150 Qlk = true := by kernel_rfl
theorem Qru : Q0 Tryz.prog 151 Ql0 = true := by kernel_rfl
theorem Qt0 : Q0 Tryz.prog 152 Qm8 = true := by kernel_rfl
theorem Qt5 : Q0 Tryz.prog 153 Qkn = true := by kernel_rfl
theorem Qt1 : Q0 Tryz.prog 154 Qpc = true := by kernel_rfl
theorem Quz : Q0 Tryz.prog 155 Qqk = true := by kernel_rfl
theorem Qwe : Q0 Tryz.prog 156 Qka = true := by kernel_rfl
theorem Qup : Q0 Tryz.prog 157 Qp9 = true := by kernel_rfl
theorem Qri : Q0 Tryz.prog 158 Qk3 = true := by kernel_rfl
theorem Qw4 : Q0 Tryz.prog 159 Qmq = true := by kernel_rfl
theorem Qux : Q0 Tryz.prog 160 Qp7 = true := by kernel_rfl
theorem Qws : Q0 Tryz.prog 161 Qoi = true := by kernel_rfl
theorem Quy : Q0 Tryz.prog 162 Qm4 = true := by kernel_rfl
theorem Qww : Q0 Tryz.prog 163 Qq8 = true := by kernel_rfl
theorem Qwn : Q0 Tryz.prog 164 Qpf = true := by kernel_rfl
theorem Qus : Q0 Tryz.prog 165 Qmw = true := by kernel_rfl
theorem Qsc : Q0 Tryz.prog 166 Qlp = true := by kernel_rfl
theorem Qw5 : Q0 Tryz.prog 167 Qqr = true := by kernel_rfl
theorem Qrg : Q0 Tryz.prog 168 Qnj = true := by kernel_rfl
theorem Qv4 : Q0 Tryz.prog 169 Qku = true := by kernel_rfl
theorem Qtc : Q0 Tryz.prog 170 Qlb = true := by kernel_rfl
theorem Qxc : Q0 Tryz.prog 171 Qox = true := by kernel_rfl
theorem Qvr : Q0 Tryz.prog 172 Qnx = true := by kernel_rfl
theorem Qsv : Q0 Tryz.prog 173 Qql = true := by kernel_rfl
theorem Qxg : Q0 Tryz.prog 174 Qnh = true := by kernel_rfl
end
end Go.Av
namespace Go.Av
noncomputable section
open Go.Proofs
set_option maxRecDepth 100000
theorem Qxo : Q0 Tryz.prog 176 Qjo = true := by kernel_rfl
theorem Qr1 : Q0 Tryz.prog 177 Qll = true := by kernel_rfl
theorem Quh : Q0 Tryz.prog 178 Qk8 = true := by kernel_rfl
theorem Qtk : Q0 Tryz.prog 179 Qmv = true := by kernel_rfl
theorem Quu : Q0 Tryz.prog 180 Qob = true := by kernel_rfl
theorem Qrc : Q0 Tryz.prog 181 Qkb = true := by kernel_rfl
theorem Qwv : Q0 Tryz.prog 182 Qjz = true := by kernel_rfl
theorem Qxr : Q0 Tryz.prog 183 Qn9 = true := by kernel_rfl
theorem Qrf : Q0 Tryz.prog 184 Qle = true := by kernel_rfl
theorem Qr6 : Q0 Tryz.prog 185 Qnk = true := by kernel_rfl
theorem Qut : Q0 Tryz.prog 186 Qpm = true := by kernel_rfl
theorem Quq : Q0 Tryz.prog 187 Ql2 = true := by kernel_rfl
theorem Qx1 : Q0 Tryz.prog 188 Qk6 = true := by kernel_rfl
theorem Qs8 : Q0 Tryz.prog 189 Qmk = true := by kernel_rfl
theorem Qui : Q0 Tryz.prog 190 Qpa = true := by kernel_rfl
theorem Qvf : Q0 Tryz.prog 191 Qn3 = true := by kernel_rfl
theorem Qrw : Q0 Tryz.prog 192 Qmm = true := by kernel_rfl
theorem Qua : Q0 Tryz.prog 193 Qn6 = true := by kernel_rfl
theorem Qrh : Q0 Tryz.prog 194 Qkp = true := by kernel_rfl
theorem Qsz : Q0 Tryz.prog 195 Qpb = true := by kernel_rfl
theorem Qwi : Q0 Tryz.prog 196 Qkr = true := by kernel_rfl
theorem Qsx : Q0 Tryz.prog 197 Qpu = true := by kernel_rfl
theorem Qre : Q0 Tryz.prog 198 Qm0 = true := by kernel_rfl
theorem Qwb : Q0 Tryz.prog 199 Qpl = true := by kernel_rfl
theorem Qs5 : Q0 Tryz.prog 200 Qod = true := by kernel_rfl
theorem Qtj : Q0 Tryz.prog 201 Qnt = true := by kernel_rfl
theorem Qtw : Q0 Tryz.prog 202 Qqe = true := by kernel_rfl
theorem Qqy : Q0 Tryz.prog 203 Qqc = true := by kernel_rfl
theorem Qr9 : Q0 Tryz.prog 204 Qlu = true := by kernel_rfl
theorem Qsu : Q0 Tryz.prog 205 Qo6 = true := by kernel_rfl
theorem Qxe : Q0 Tryz.prog 206 Qp1 = true := by kernel_rfl
theorem Qvu : Q0 Tryz.prog 207 Qph = true := by kernel_rfl
theorem Qw6 : Q0 Tryz.prog 208 Qmt = true := by kernel_rfl
theorem Qw2 : Q0 Tryz.prog 209 Qkm = true := by kernel_rfl
theorem Qva : Q0 Tryz.prog 210 Qqf = true := by kernel_rfl
theorem Qvk : Q0 Tryz.prog 211 Qp5 = true := by kernel_rfl
theorem Qxd : Q0 Tryz.prog 212 Qo7 = true := by kernel_rfl
theorem Qv7 : Q0 Tryz.prog 213 Ql5 = true := by kernel_rfl
theorem Qu4 : Q0 Tryz.prog 214 Qmx = true := by kernel_rfl
theorem Qu3 : Q0 Tryz.prog 215 Qjs = true := by kernel_rfl
theorem Qr4 : Q0 Tryz.prog 216 Qk4 = true := by kernel_rfl
theorem Qwc : Q0 Tryz.prog 217 Qm6 = true := by kernel_rfl
theorem Qrl : Q0 Tryz.prog 218 Qok = true := by kernel_rfl
theorem Qso : Q0 Tryz.prog 219 Qly = true := by kernel_rfl
theorem Qub : Q0 Tryz.prog 220 Qpx = true := by kernel_rfl
theorem Qw8 : Q0 Tryz.prog 221 Qjn = true := by kernel_rfl
theorem Qsd : Q0 Tryz.prog 222 Qmo = true := by kernel_rfl
theorem Qx3 : Q0 Tryz.prog 223 Qpi = true := by kernel_rfl
theorem Qs2 : Q0 Tryz.prog 224 Qn0 = true := by kernel_rfl
theorem Qt7 : Q0 Tryz.prog 225 Qkf = true := by kernel_rfl
theorem Quf : Q0 Tryz.prog 226 Qn4 = true := by kernel_rfl
theorem Qvl : Q0 Tryz.prog 227 Qqh = true := by kernel_rfl
theorem Qs9 : Q0 Tryz.prog 228 Qqj = true := by kernel_rfl
theorem Qsg : Q0 Tryz.prog 229 Ql1 = true := by kernel_rfl
theorem Qwp : Q0 Tryz.prog 230 Qme = true := by kernel_rfl
end
end Go.Av
namespace Go.Av
noncomputable section
open Go.Proofs
set_option maxRecDepth 100000
theorem Qx9 : Q0 Tryz.prog 231 Qqb = true := by kernel_rfl
theorem Qxq : Q0 Tryz.prog 232 Ql6 = true := by kernel_rfl
theorem Qx4 : Q0 Tryz.prog 233 Qlm = true := by kernel_rfl
theorem Quw : Q0 Tryz.prog 234 Qpr = true := by kernel_rfl
theorem Qs3 : Q0 Tryz.prog 235 Qnd = true := by kernel_rfl
theorem Qvq : Q0 Tryz.prog 236 Qkk = true := by kernel_rfl
theorem Qv2 : Q0 Tryz.prog 237 Qny = true := by kernel_rfl
theorem Qul : Q0 Tryz.prog 238 Qmy = true := by kernel_rfl
theorem Qxf : Q0 Tryz.prog 239 Qnr = true := by kernel_rfl
theorem Qvx : Q0 Tryz.prog 240 Qk1 = true := by kernel_rfl
theorem Qr5 : Q0 Tryz.prog 241 Qov = true := by kernel_rfl
theorem Qr8 : Q0 Tryz.prog 242 Qmb = true := by kernel_rfl
theorem Qvj : Q0 Tryz.prog 243 Qnb = true := by kernel_rfl
theorem Qsr : Q0 Tryz.prog 244 Qml = true := by kernel_rfl
theorem Qse : Q0 Tryz.prog 245 Qpw = true := by kernel_rfl
theorem Qrn : Q0 Tryz.prog 246 Qpk = true := by kernel_rfl
theorem Qr3 : Q0 Tryz.prog 247 Qkz = true := by kernel_rfl
theorem Qu6 : Q0 Tryz.prog 248 Qpn = true := by kernel_rfl
theorem Qve : Q0 Tryz.prog 249 Qpt = true := by kernel_rfl
theorem Quv : Q0 Tryz.prog 250 Qoh = true := by kernel_rfl
theorem Qqx : Q0 Tryz.prog 251 Qpy = true := by kernel_rfl
theorem Qvg : Q0 Tryz.prog 252 Qm1 = true := by kernel_rfl
theorem Qsw : Q0 Tryz.prog 253 Qmp = true := by kernel_rfl
theorem Qvy : Q0 Tryz.prog 254 Qo8 = true := by kernel_rfl
theorem Qu2 : Q0 Tryz.prog 255 Qno = true := by kernel_rfl
theorem Qsj : Q0 Tryz.prog 256 Qlh = true := by kernel_rfl
theorem Qwt : Q0 Tryz.prog 257 Qo9 = true := by kernel_rfl
theorem Qwg : Q0 Tryz.prog 258 Qq6 = true := by kernel_rfl
theorem Qs1 : Q0 Tryz.prog 259 Qom = true := by kernel_rfl
theorem Qw7 : Q0 Tryz.prog 260 Qp2 = true := by kernel_rfl
theorem Qxi : Q0 Tryz.prog 261 Qmn = true := by kernel_rfl
theorem Qs6 : Q0 Tryz.prog 262 Qm9 = true := by kernel_rfl
theorem Qtt : Q0 Tryz.prog 263 Qnl = true := by kernel_rfl
theorem Qts : Q0 Tryz.prog 264 Qlt = true := by kernel_rfl
theorem Qvw : Q0 Tryz.prog 265 Qlc = true := by kernel_rfl
theorem Qwq : Q0 Tryz.prog 266 Qnf = true := by kernel_rfl
theorem Qwa : Q0 Tryz.prog 267 Qk7 = true := by kernel_rfl
theorem Qv0 : Q0 Tryz.prog 268 Qns = true := by kernel_rfl
theorem Qvt : Q0 Tryz.prog 269 Qnu = true := by kernel_rfl
theorem Qtz : Q0 Tryz.prog 270 Qqi = true := by kernel_rfl
theorem Qxh : Q0 Tryz.prog 271 Qq2 = true := by kernel_rfl
theorem Qx5 : Q0 Tryz.prog 272 Qo5 = true := by kernel_rfl
theorem Qvd : Q0 Tryz.prog 273 Qln = true := by kernel_rfl
theorem Qu5 : Q0 Tryz.prog 274 Qm5 = true := by kernel_rfl
theorem Qtb : Q0 Tryz.prog 275 Qlo = true := by kernel_rfl
theorem Qtl : Q0 Tryz.prog 276 Qls = true := by kernel_rfl
theorem Qxk : Q0 Tryz.prog 277 Qnw = true := by kernel_rfl
theorem Qun : Q0 Tryz.prog 278 Qpj = true := by kernel_rfl
theorem Qxb : Q0 Tryz.prog 279 Qpv = true := by kernel_rfl
theorem Qug : Q0 Tryz.prog 280 Qjv = true := by kernel_rfl
theorem Qvm : Q0 Tryz.prog 281 Qqq = true := by kernel_rfl
theorem Qtx : Q0 Tryz.prog 282 Qko = true := by kernel_rfl
theorem Qsa : Q0 Tryz.prog 283 Qm3 = true := by kernel_rfl
end
end Go.Av
namespace Go.Av
noncomputable section
open Go.Proofs
set_option maxRecDepth 100000
theorem Qu0 : Q0 Tryz.prog 284 Ql8 = true := by kernel_rfl
theorem Qwj : Q0 Tryz.prog 285 Qky = true := by kernel_rfl
theorem Quk : Q0 Tryz.prog 286 Qqm = true := by kernel_rfl
theorem Qw9 : Q0 Tryz.prog 287 Qof = true := by kernel_rfl
theorem Qwz : Q0 Tryz.prog 288 Qqv = true := by kernel_rfl
theorem Qvc : Q0 Tryz.prog 289 Qoe = true := by kernel_rfl
theorem Qx8 : Q0 Tryz.prog 290 Qq1 = true := by kernel_rfl
theorem Qtm : Q0 Tryz.prog 291 Qlv = true := by kernel_rfl
theorem Qqz : Q0 Tryz.prog 292 Qjq = true := by kernel_rfl
theorem Qvs : Q0 Tryz.prog 293 Qmd = true := by kernel_rfl
theorem Qsl : Q0 Tryz.prog 294 Qpp = true := by kernel_rfl
theorem Qvb : Q0 Tryz.prog 295 Qni = true := by kernel_rfl
theorem Qwm : Q0 Tryz.prog 296 Qoo = true := by kernel_rfl
theorem Qtr : Q0 Tryz.prog 297 Qk9 = true := by kernel_rfl
theorem Que : Q0 Tryz.prog 298 Qnq = true := by kernel_rfl
theorem Qsb : Q0 Tryz.prog 299 Qo1 = true := by kernel_rfl
theorem Qvh : Q0 Tryz.prog 300 Qoj = true := by kernel_rfl
theorem Qsy : Q0 Tryz.prog 301 Qkj = true := by kernel_rfl
theorem Qth : Q0 Tryz.prog 302 Qki = true := by kernel_rfl
theorem Qt3 : Q0 Tryz.prog 303 Qli = true := by kernel_rfl
theorem Qwu : Q0 Tryz.prog 304 Qkt = true := by kernel_rfl
theorem Qs4 : Q0 Tryz.prog 305 Qo3 = true := by kernel_rfl
theorem Qsh : Q0 Tryz.prog 306 Qnc = true := by kernel_rfl
theorem Qsq : Q0 Tryz.prog 307 Qos = true := by kernel_rfl
theorem Qrr : Q0 Tryz.prog 308 Qqp = true := by kernel_rfl
theorem Qrj : Q0 Tryz.prog 309 Ql3 = true := by kernel_rfl
theorem Qsk : Q0 Tryz.prog 310 Qn5 = true := by kernel_rfl
theorem Qwy : Q0 Tryz.prog 311 Qld = true := by kernel_rfl
theorem Qte : Q0 Tryz.prog 312 Qn2 = true := by kernel_rfl
theorem Qv6 : Q0 Tryz.prog 313 Qo2 = true := by kernel_rfl
theorem Qvv : Q0 Tryz.prog 314 Qow = true := by kernel_rfl
theorem Qu7 : Q0 Tryz.prog 315 Qpd = true := by kernel_rfl
theorem Qrz : Q0 Tryz.prog 316 Qmf = true := by kernel_rfl
theorem Qsp : Q0 Tryz.prog 317 Qq9 = true := by kernel_rfl
theorem Qro : Q0 Tryz.prog 318 Qpq = true := by kernel_rfl
theorem Quo : Q0 Tryz.prog 319 Qk2 = true := by kernel_rfl
theorem Qrm : Q0 Tryz.prog 320 Qnn = true := by kernel_rfl
theorem Qrk : Q0 Tryz.prog 321 Qqt = true := by kernel_rfl
theorem Qx0 : Q0 Tryz.prog 322 Qot = true := by kernel_rfl
theorem Qum : Q0 Tryz.prog 323 Qqa = true := by kernel_rfl
theorem Qta : Q0 Tryz.prog 324 Qkc = true := by kernel_rfl
end
end Go.Av
namespace Go.Av
noncomputable section
open Go.Proofs
set_option maxRecDepth 100000
theorem Qtf : Q0 Tryz.prog 325 Qlq = true := by kernel_rfl
theorem Qvp : Q0 Tryz.prog 326 Qkd = true := by kernel_rfl
theorem Qtp : Q0 Tryz.prog 327 Qms = true := by kernel_rfl
theorem Qsn : Q0 Tryz.prog 328 Qqw = true := by kernel_rfl
theorem Qwr : Q0 Tryz.prog 329 Qoy = true := by kernel_rfl
theorem Qu8 : Q0 Tryz.prog 330 Qoa = true := by kernel_rfl
theorem Qrs : Q0 Tryz.prog 331 Qqd = true := by kernel_rfl
theorem Qtn : Q0 Tryz.prog 334 Qnp = true := by kernel_rfl
theorem Qrp : Q0 Tryz.prog 335 Qn7 = true := by kernel_rfl
theorem Quc : Q0 Tryz.prog 336 Qqo = true := by kernel_rfl
theorem Qr0 : Q0 Tryz.prog 337 Qkl = true := by kernel_rfl
theorem Qs0 : Q0 Tryz.prog 338 Qp8 = true := by kernel_rfl
theorem Qrv : Q0 Tryz.prog 339 Qp0 = true := by kernel_rfl
theorem Qwk : Q0 Tryz.prog 340 Qpg = true := by kernel_rfl
theorem Qr2 : Q0 Tryz.prog 341 Qmg = true := by kernel_rfl
theorem Qr7 : Q0 Tryz.prog 342 Qkv = true := by kernel_rfl
theorem Qst : Q0 Tryz.prog 344 Qq7 = true := by kernel_rfl
theorem Qt4 : Q0 Tryz.prog 345 Qoc = true := by kernel_rfl
theorem Qxn : Q0 Tryz.prog 346 Qol = true := by kernel_rfl
theorem Qwx : Q0 Tryz.prog 347 Qnz = true := by kernel_rfl
theorem Quj : Q0 Tryz.prog 348 Qp6 = true := by kernel_rfl
end
end Go.Av

