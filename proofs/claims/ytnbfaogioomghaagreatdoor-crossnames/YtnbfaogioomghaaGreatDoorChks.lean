/- Part of the proof of CrossNames: for every input the law returns true; no condition. -/
import Derived.Test.YtnbfaogioomghaaGreatDoorCode1
import Derived.Test.YtnbfaogioomghaaGreatDoorAvChk
import Derived.KernelRfl
import Derived.Test.YtnbfaogioomghaaGreatDoorProg
namespace Go.Av
noncomputable section
open Go.Proofs
set_option maxRecDepth 100000
abbrev cQ := Xb Tryz.prog
theorem k3 : cQ 3 c3 = true := by kernel_rfl
theorem k4 : cQ 4 c4 = true := by kernel_rfl
theorem k5 : cQ 5 c5 = true := by kernel_rfl
theorem k6 : cQ 6 c6 = true := by kernel_rfl
theorem k7 : cQ 7 c7 = true := by kernel_rfl
theorem k8 : cQ 8 c8 = true := by kernel_rfl
theorem k9 : cQ 9 c9 = true := by kernel_rfl
theorem k10 : cQ 10 c10 = true := by kernel_rfl
theorem k11 : cQ 11 c11 = true := by kernel_rfl
theorem k12 : cQ 12 c12 = true := by kernel_rfl
theorem k13 : cQ 13 c13 = true := by kernel_rfl
theorem k14 : cQ 14 c14 = true := by kernel_rfl
theorem k15 : cQ 15 c15 = true := by kernel_rfl
theorem k16 : cQ 16 c16 = true := by kernel_rfl
theorem k17 : cQ 17 c17 = true := by kernel_rfl
theorem k18 : cQ 18 c18 = true := by kernel_rfl
end
end Go.Av
namespace Go.Av
noncomputable section
open Go.Proofs
set_option maxRecDepth 100000
theorem k19 : cQ 19 c19 = true := by kernel_rfl
theorem k20 : cQ 20 c20 = true := by kernel_rfl
theorem k21 : cQ 21 c21 = true := by kernel_rfl
theorem k22 : cQ 22 c22 = true := by kernel_rfl
theorem k23 : cQ 23 c23 = true := by kernel_rfl
theorem k24 : cQ 24 c24 = true := by kernel_rfl
theorem k25 : cQ 25 c25 = true := by kernel_rfl
theorem k26 : cQ 26 c26 = true := by kernel_rfl
theorem k27 : cQ 27 c27 = true := by kernel_rfl
theorem k28 : cQ 28 c28 = true := by kernel_rfl
theorem k29 : cQ 29 c29 = true := by kernel_rfl
theorem k30 : cQ 30 c30 = true := by kernel_rfl
theorem k31 : cQ 31 c31 = true := by kernel_rfl
theorem k32 : cQ 32 c32 = true := by kernel_rfl
theorem k33 : cQ 33 c33 = true := by kernel_rfl
theorem k34 : cQ 34 c34 = true := by kernel_rfl
theorem k35 : cQ 35 c35 = true := by kernel_rfl
theorem k36 : cQ 36 c36 = true := by kernel_rfl
theorem k37 : cQ 37 c37 = true := by kernel_rfl
theorem k38 : cQ 38 c38 = true := by kernel_rfl
theorem k39 : cQ 39 c39 = true := by kernel_rfl
theorem k40 : cQ 40 c40 = true := by kernel_rfl
theorem k41 : cQ 41 c41 = true := by kernel_rfl
theorem k42 : cQ 42 c42 = true := by kernel_rfl
theorem k43 : cQ 43 c43 = true := by kernel_rfl
theorem k44 : cQ 44 c44 = true := by kernel_rfl
theorem k45 : cQ 45 c45 = true := by kernel_rfl
theorem k46 : cQ 46 c46 = true := by kernel_rfl
theorem k47 : cQ 47 c47 = true := by kernel_rfl
theorem k48 : cQ 48 c48 = true := by kernel_rfl
theorem k49 : cQ 49 c49 = true := by kernel_rfl
theorem k50 : cQ 50 c50 = true := by kernel_rfl
theorem k51 : cQ 51 c51 = true := by kernel_rfl
theorem k52 : cQ 52 c52 = true := by kernel_rfl
theorem k53 : cQ 53 c53 = true := by kernel_rfl
theorem k54 : cQ 54 c54 = true := by kernel_rfl
theorem k55 : cQ 55 c55 = true := by kernel_rfl
theorem k56 : cQ 56 c56 = true := by kernel_rfl
theorem k57 : cQ 57 c57 = true := by kernel_rfl
theorem k58 : cQ 58 c58 = true := by kernel_rfl
theorem k59 : cQ 59 c59 = true := by kernel_rfl
theorem k60 : cQ 60 c60 = true := by kernel_rfl
theorem k61 : cQ 61 c61 = true := by kernel_rfl
theorem k62 : cQ 62 c62 = true := by kernel_rfl
theorem k63 : cQ 63 c63 = true := by kernel_rfl
theorem k64 : cQ 64 c64 = true := by kernel_rfl
theorem k65 : cQ 65 c65 = true := by kernel_rfl
theorem k66 : cQ 66 c66 = true := by kernel_rfl
theorem k67 : cQ 67 c67 = true := by kernel_rfl
end
end Go.Av
namespace Go.Av
noncomputable section
open Go.Proofs
set_option maxRecDepth 100000
theorem k68 : cQ 68 c68 = true := by kernel_rfl
theorem k69 : cQ 69 c69 = true := by kernel_rfl
theorem k70 : cQ 70 c70 = true := by kernel_rfl
theorem k71 : cQ 71 c71 = true := by kernel_rfl
theorem k72 : cQ 72 c72 = true := by kernel_rfl
theorem k73 : cQ 73 c73 = true := by kernel_rfl
theorem k74 : cQ 74 c74 = true := by kernel_rfl
theorem k75 : cQ 75 c75 = true := by kernel_rfl
theorem k76 : cQ 76 c76 = true := by kernel_rfl
theorem k77 : cQ 77 c77 = true := by kernel_rfl
theorem k78 : cQ 78 c78 = true := by kernel_rfl
theorem k79 : cQ 79 c79 = true := by kernel_rfl
theorem k80 : cQ 80 c80 = true := by kernel_rfl
theorem k81 : cQ 81 c81 = true := by kernel_rfl
theorem k82 : cQ 82 c82 = true := by kernel_rfl
theorem k83 : cQ 83 c83 = true := by kernel_rfl
theorem k84 : cQ 84 c84 = true := by kernel_rfl
theorem k85 : cQ 85 c85 = true := by kernel_rfl
theorem k86 : cQ 86 c86 = true := by kernel_rfl
theorem k87 : cQ 87 c87 = true := by kernel_rfl
theorem k88 : cQ 88 c88 = true := by kernel_rfl
theorem k89 : cQ 89 c89 = true := by kernel_rfl
theorem k90 : cQ 90 c90 = true := by kernel_rfl
theorem k91 : cQ 91 c91 = true := by kernel_rfl
theorem k92 : cQ 92 c92 = true := by kernel_rfl
theorem k93 : cQ 93 c93 = true := by kernel_rfl
theorem k94 : cQ 94 c94 = true := by kernel_rfl
theorem k95 : cQ 95 c95 = true := by kernel_rfl
theorem k96 : cQ 96 c96 = true := by kernel_rfl
theorem k97 : cQ 97 c97 = true := by kernel_rfl
theorem k98 : cQ 98 c98 = true := by kernel_rfl
theorem k99 : cQ 99 c99 = true := by kernel_rfl
theorem Qq7 : cQ 100 Qox = true := by kernel_rfl
theorem Qot : cQ 101 Qjn = true := by kernel_rfl
theorem Qsb : cQ 102 Qmr = true := by kernel_rfl
theorem Qjj : cQ 103 Qpq = true := by kernel_rfl
theorem Qvh : cQ 104 Qm0 = true := by kernel_rfl
theorem Qtw : cQ 105 Qoo = true := by kernel_rfl
theorem Quu : cQ 106 Qny = true := by kernel_rfl
theorem Qug : cQ 107 Ql7 = true := by kernel_rfl
theorem Quj : cQ 108 Qpt = true := by kernel_rfl
theorem Qyl : cQ 109 Qs4 = true := by kernel_rfl
theorem Qwq : cQ 110 Qkc = true := by kernel_rfl
theorem Quo : cQ 111 Qmi = true := by kernel_rfl
theorem Qsd : cQ 112 Qmb = true := by kernel_rfl
theorem Qza : cQ 113 Ql9 = true := by kernel_rfl
end
end Go.Av
namespace Go.Av
noncomputable section
open Go.Proofs
set_option maxRecDepth 100000
theorem Qwk : cQ 114 Qpn = true := by kernel_rfl
theorem Qsr : cQ 115 Qo4 = true := by kernel_rfl
theorem Qys : cQ 116 Qnt = true := by kernel_rfl
theorem Qv1 : cQ 117 Qop = true := by kernel_rfl
theorem Qwf : cQ 118 Qmx = true := by kernel_rfl
theorem Qus : cQ 119 Qly = true := by kernel_rfl
theorem Qyz : cQ 120 Qqs = true := by kernel_rfl
theorem Qun : cQ 121 Qqj = true := by kernel_rfl
theorem Qyc : cQ 122 Qm6 = true := by kernel_rfl
theorem Qw3 : cQ 123 Qmn = true := by kernel_rfl
theorem Qkk : cQ 124 Qm5 = true := by kernel_rfl
theorem Qkb : cQ 125 Qqv = true := by kernel_rfl
theorem Qn3 : cQ 126 Qqc = true := by kernel_rfl
theorem Qo7 : cQ 127 Qni = true := by kernel_rfl
theorem Qlz : cQ 128 Qp3 = true := by kernel_rfl
theorem Qkv : cQ 129 Qqa = true := by kernel_rfl
theorem Qpk : cQ 130 Qoc = true := by kernel_rfl
theorem Qlt : cQ 131 Qo8 = true := by kernel_rfl
theorem Qo5 : cQ 132 Qpf = true := by kernel_rfl
theorem Qm9 : cQ 133 Qnk = true := by kernel_rfl
theorem Qze : cQ 134 Qlu = true := by kernel_rfl
theorem Qva : cQ 135 Qqk = true := by kernel_rfl
theorem Qwm : cQ 136 Qpu = true := by kernel_rfl
theorem Qvt : cQ 137 Qo1 = true := by kernel_rfl
theorem Qyh : cQ 138 Qmk = true := by kernel_rfl
theorem Qy8 : cQ 139 Qp7 = true := by kernel_rfl
theorem Qw9 : cQ 140 Qnh = true := by kernel_rfl
theorem Qyd : cQ 141 Qps = true := by kernel_rfl
theorem Qty : cQ 142 Qnc = true := by kernel_rfl
theorem Qvy : cQ 143 Qjt = true := by kernel_rfl
theorem Qtc : cQ 144 Qrf = true := by kernel_rfl
theorem Qt4 : cQ 145 Qke = true := by kernel_rfl
theorem Qt5 : cQ 146 Qob = true := by kernel_rfl
theorem Qyg : cQ 147 Ql8 = true := by kernel_rfl
theorem Qvz : cQ 148 Qn7 = true := by kernel_rfl
theorem Qv3 : cQ 149 Qpd = true := by kernel_rfl
theorem Qss : cQ 150 Qla = true := by kernel_rfl
theorem Qv2 : cQ 151 Qr7 = true := by kernel_rfl
theorem Qx6 : cQ 152 Qmu = true := by kernel_rfl
theorem Qth : cQ 153 Qov = true := by kernel_rfl
theorem Qsu : cQ 154 Qki = true := by kernel_rfl
theorem Qul : cQ 155 Qrb = true := by kernel_rfl
theorem Qpy : cQ 156 Qjk = true := by kernel_rfl
theorem Qwi : cQ 157 Qph = true := by kernel_rfl
theorem Qru : cQ 159 Qs9 = true := by kernel_rfl
theorem Qmj : cQ 160 Qp8 = true := by kernel_rfl
theorem Qoa : cQ 161 Qs1 = true := by kernel_rfl
theorem Qo2 : cQ 162 Qp2 = true := by kernel_rfl
end
end Go.Av
namespace Go.Av
noncomputable section
open Go.Proofs
set_option maxRecDepth 100000
theorem Qw8 : cQ 163 Qpm = true := by kernel_rfl
theorem Qnn : cQ 164 Qp5 = true := by kernel_rfl
theorem Qjh : cQ 165 Qmd = true := by kernel_rfl
theorem Qmc : cQ 166 Qlw = true := by kernel_rfl
theorem Qz0 : cQ 167 Qro = true := by kernel_rfl
theorem Qws : cQ 168 Qnp = true := by kernel_rfl
theorem Qxk : cQ 169 Qkr = true := by kernel_rfl
theorem Qsx : cQ 170 Qr1 = true := by kernel_rfl
theorem Qsy : cQ 171 Qn1 = true := by kernel_rfl
theorem Qu5 : cQ 172 Qpv = true := by kernel_rfl
theorem Qtd : cQ 173 Qmt = true := by kernel_rfl
theorem Qo6 : cQ 174 Qql = true := by kernel_rfl
theorem Qse : cQ 175 Ql3 = true := by kernel_rfl
theorem Qxn : cQ 176 Qpj = true := by kernel_rfl
theorem Qsc : cQ 177 Qkx = true := by kernel_rfl
theorem Qwg : cQ 178 Qky = true := by kernel_rfl
theorem Qta : cQ 179 Qre = true := by kernel_rfl
theorem Qxj : cQ 180 Qp6 = true := by kernel_rfl
theorem Qn5 : cQ 181 Qnf = true := by kernel_rfl
theorem Qwo : cQ 182 Qll = true := by kernel_rfl
theorem Qvf : cQ 183 Qr6 = true := by kernel_rfl
theorem Qtl : cQ 184 Qs3 = true := by kernel_rfl
theorem Qu7 : cQ 185 Qrn = true := by kernel_rfl
theorem Quk : cQ 186 Qri = true := by kernel_rfl
theorem Qy3 : cQ 187 Qqo = true := by kernel_rfl
theorem Qyn : cQ 188 Qoy = true := by kernel_rfl
theorem Qw7 : cQ 189 Qq9 = true := by kernel_rfl
theorem Qt3 : cQ 190 Qmh = true := by kernel_rfl
theorem Qxh : cQ 191 Qk1 = true := by kernel_rfl
theorem Qz1 : cQ 192 Qnz = true := by kernel_rfl
theorem Qtu : cQ 193 Qns = true := by kernel_rfl
theorem Qve : cQ 194 Qma = true := by kernel_rfl
theorem Qsg : cQ 195 Qkn = true := by kernel_rfl
theorem Qwv : cQ 196 Qqi = true := by kernel_rfl
theorem Qvx : cQ 197 Qr5 = true := by kernel_rfl
theorem Qsl : cQ 198 Qrd = true := by kernel_rfl
theorem Qx4 : cQ 199 Qra = true := by kernel_rfl
theorem Qyw : cQ 201 Qrr = true := by kernel_rfl
theorem Qo0 : cQ 202 Qkj = true := by kernel_rfl
theorem Qtx : cQ 203 Qmy = true := by kernel_rfl
theorem Qtv : cQ 204 Qr4 = true := by kernel_rfl
theorem Qts : cQ 205 Qnv = true := by kernel_rfl
theorem Qsj : cQ 206 Qls = true := by kernel_rfl
theorem Qw4 : cQ 207 Qk0 = true := by kernel_rfl
theorem Qy7 : cQ 208 Qod = true := by kernel_rfl
theorem Qyu : cQ 209 Qqx = true := by kernel_rfl
end
end Go.Av
namespace Go.Av
noncomputable section
open Go.Proofs
set_option maxRecDepth 100000
theorem Qxe : cQ 210 Qka = true := by kernel_rfl
theorem Qx2 : cQ 211 Qlx = true := by kernel_rfl
theorem Qz4 : cQ 212 Qjl = true := by kernel_rfl
theorem Qwt : cQ 213 Qkl = true := by kernel_rfl
theorem Qxs : cQ 214 Qlf = true := by kernel_rfl
theorem Qu6 : cQ 215 Qks = true := by kernel_rfl
theorem Qst : cQ 216 Qnb = true := by kernel_rfl
theorem Quy : cQ 217 Qkw = true := by kernel_rfl
theorem Quc : cQ 218 Qq6 = true := by kernel_rfl
theorem Qzi : cQ 219 Qqf = true := by kernel_rfl
theorem Qzc : cQ 220 Qpg = true := by kernel_rfl
theorem Qwe : cQ 221 Qs5 = true := by kernel_rfl
theorem Qub : cQ 222 Qld = true := by kernel_rfl
theorem Qzn : cQ 223 Qlr = true := by kernel_rfl
theorem Qv7 : cQ 224 Qrz = true := by kernel_rfl
theorem Qsz : cQ 225 Qqu = true := by kernel_rfl
theorem Qsh : cQ 226 Qsa = true := by kernel_rfl
theorem Qzl : cQ 227 Qkf = true := by kernel_rfl
theorem Qxt : cQ 228 Qp0 = true := by kernel_rfl
theorem Quh : cQ 229 Qr9 = true := by kernel_rfl
theorem Qz3 : cQ 230 Qm4 = true := by kernel_rfl
end
end Go.Av
namespace Go.Av
noncomputable section
open Go.Proofs
set_option maxRecDepth 100000
theorem Qzk : cQ 231 Qqd = true := by kernel_rfl
theorem Qy2 : cQ 232 Qm2 = true := by kernel_rfl
theorem Qwp : cQ 233 Qku = true := by kernel_rfl
theorem Qtk : cQ 234 Qm8 = true := by kernel_rfl
theorem Qxd : cQ 235 Qs2 = true := by kernel_rfl
theorem Qup : cQ 236 Qn2 = true := by kernel_rfl
theorem Qx3 : cQ 237 Qlg = true := by kernel_rfl
theorem Qte : cQ 238 Qry = true := by kernel_rfl
theorem Qzo : cQ 239 Qrw = true := by kernel_rfl
theorem Qvi : cQ 240 Qr0 = true := by kernel_rfl
theorem Qtz : cQ 241 Qmw = true := by kernel_rfl
theorem Qvr : cQ 242 Qlj = true := by kernel_rfl
theorem Qx9 : cQ 243 Qoq = true := by kernel_rfl
theorem Qyq : cQ 244 Qjm = true := by kernel_rfl
theorem Qxu : cQ 245 Qnx = true := by kernel_rfl
theorem Quv : cQ 246 Qr8 = true := by kernel_rfl
theorem Qu4 : cQ 247 Qlq = true := by kernel_rfl
theorem Qxf : cQ 248 Qju = true := by kernel_rfl
theorem Qzq : cQ 249 Ql5 = true := by kernel_rfl
theorem Qut : cQ 250 Qqp = true := by kernel_rfl
theorem Qvd : cQ 251 Qnu = true := by kernel_rfl
theorem Qt6 : cQ 252 Qpr = true := by kernel_rfl
theorem Quf : cQ 253 Qoh = true := by kernel_rfl
theorem Qww : cQ 254 Qjz = true := by kernel_rfl
theorem Qyt : cQ 255 Qs7 = true := by kernel_rfl
theorem Qt2 : cQ 256 Qnm = true := by kernel_rfl
theorem Qy9 : cQ 257 Qmf = true := by kernel_rfl
theorem Qv9 : cQ 258 Qqn = true := by kernel_rfl
theorem Qv6 : cQ 259 Qjr = true := by kernel_rfl
theorem Qy1 : cQ 260 Qk6 = true := by kernel_rfl
theorem Qwx : cQ 261 Qln = true := by kernel_rfl
theorem Qvk : cQ 262 Qon = true := by kernel_rfl
theorem Quz : cQ 263 Qlk = true := by kernel_rfl
theorem Qxb : cQ 264 Qjp = true := by kernel_rfl
theorem Qx1 : cQ 265 Qne = true := by kernel_rfl
theorem Qz7 : cQ 266 Qmp = true := by kernel_rfl
theorem Qwh : cQ 267 Qn9 = true := by kernel_rfl
theorem Qyb : cQ 268 Qkt = true := by kernel_rfl
theorem Qvu : cQ 269 Qkh = true := by kernel_rfl
theorem Qwn : cQ 270 Qr3 = true := by kernel_rfl
theorem Qt8 : cQ 271 Qn0 = true := by kernel_rfl
theorem Qwr : cQ 272 Qoz = true := by kernel_rfl
theorem Qz5 : cQ 273 Qms = true := by kernel_rfl
theorem Qyy : cQ 274 Qnq = true := by kernel_rfl
theorem Qvc : cQ 275 Qpo = true := by kernel_rfl
theorem Qxc : cQ 276 Qkd = true := by kernel_rfl
theorem Qtm : cQ 277 Qqe = true := by kernel_rfl
theorem Qzj : cQ 278 Qmo = true := by kernel_rfl
theorem Qv4 : cQ 279 Qrg = true := by kernel_rfl
theorem Qtj : cQ 280 Qqg = true := by kernel_rfl
theorem Qu9 : cQ 281 Qnw = true := by kernel_rfl
theorem Qzd : cQ 282 Qm3 = true := by kernel_rfl
theorem Qy5 : cQ 283 Ql1 = true := by kernel_rfl
theorem Qxo : cQ 284 Qpw = true := by kernel_rfl
theorem Qua : cQ 285 Qok = true := by kernel_rfl
theorem Qxq : cQ 286 Qlm = true := by kernel_rfl
theorem Qvw : cQ 287 Qol = true := by kernel_rfl
theorem Qyf : cQ 288 Qk7 = true := by kernel_rfl
theorem Qw0 : cQ 289 Qqz = true := by kernel_rfl
end
end Go.Av
namespace Go.Av
noncomputable section
open Go.Proofs
set_option maxRecDepth 100000
theorem Qz2 : cQ 290 Qjo = true := by kernel_rfl
theorem Qsf : cQ 291 Qrm = true := by kernel_rfl
theorem Qv5 : cQ 292 Qrk = true := by kernel_rfl
theorem Qsn : cQ 293 Qn4 = true := by kernel_rfl
theorem Qvq : cQ 294 Qkp = true := by kernel_rfl
theorem Qur : cQ 295 Qrt = true := by kernel_rfl
theorem Qsq : cQ 296 Qjx = true := by kernel_rfl
theorem Qy0 : cQ 297 Qlp = true := by kernel_rfl
theorem Qxr : cQ 298 Qjs = true := by kernel_rfl
theorem Qwy : cQ 299 Qrh = true := by kernel_rfl
theorem Qx5 : cQ 300 Qpl = true := by kernel_rfl
theorem Qy4 : cQ 301 Qkz = true := by kernel_rfl
theorem Qxv : cQ 302 Qn6 = true := by kernel_rfl
theorem Qud : cQ 303 Qle = true := by kernel_rfl
theorem Qtt : cQ 304 Qji = true := by kernel_rfl
theorem Qxy : cQ 305 Qkm = true := by kernel_rfl
theorem Qvm : cQ 306 Qli = true := by kernel_rfl
theorem Qyi : cQ 307 Qkq = true := by kernel_rfl
theorem Qx0 : cQ 308 Qno = true := by kernel_rfl
theorem Qsw : cQ 309 Qq2 = true := by kernel_rfl
theorem Qyr : cQ 310 Qk2 = true := by kernel_rfl
theorem Qz9 : cQ 311 Qqb = true := by kernel_rfl
theorem Qx7 : cQ 312 Ql2 = true := by kernel_rfl
theorem Qtr : cQ 313 Qjv = true := by kernel_rfl
theorem Qvn : cQ 314 Qm7 = true := by kernel_rfl
theorem Quw : cQ 315 Qlo = true := by kernel_rfl
theorem Qt0 : cQ 316 Qlb = true := by kernel_rfl
theorem Qxx : cQ 317 Qpc = true := by kernel_rfl
theorem Qto : cQ 318 Qqq = true := by kernel_rfl
theorem Qw1 : cQ 319 Qpi = true := by kernel_rfl
theorem Qu1 : cQ 320 Qme = true := by kernel_rfl
theorem Qvo : cQ 321 Qpa = true := by kernel_rfl
theorem Qxw : cQ 322 Ql4 = true := by kernel_rfl
theorem Qtb : cQ 323 Qq3 = true := by kernel_rfl
theorem Qz8 : cQ 324 Qqm = true := by kernel_rfl
theorem Qu3 : cQ 325 Qmm = true := by kernel_rfl
theorem Que : cQ 326 Qrp = true := by kernel_rfl
theorem Qxa : cQ 327 Qrl = true := by kernel_rfl
theorem Qsm : cQ 328 Qqt = true := by kernel_rfl
theorem Qzm : cQ 329 Qna = true := by kernel_rfl
theorem Qwu : cQ 330 Qp9 = true := by kernel_rfl
theorem Qwd : cQ 331 Qnj = true := by kernel_rfl
theorem Qsk : cQ 332 Qq4 = true := by kernel_rfl
theorem Qvv : cQ 333 Qos = true := by kernel_rfl
theorem Qyv : cQ 334 Qof = true := by kernel_rfl
theorem Qvs : cQ 335 Qq5 = true := by kernel_rfl
theorem Qw5 : cQ 336 Qrs = true := by kernel_rfl
theorem Qxg : cQ 337 Qs6 = true := by kernel_rfl
theorem Qyx : cQ 338 Qlh = true := by kernel_rfl
theorem Qwb : cQ 339 Qpb = true := by kernel_rfl
theorem Qtn : cQ 340 Qq8 = true := by kernel_rfl
theorem Quq : cQ 341 Qo3 = true := by kernel_rfl
theorem Qwl : cQ 342 Qpx = true := by kernel_rfl
theorem Qzb : cQ 343 Qkg = true := by kernel_rfl
theorem Qvl : cQ 344 Qk4 = true := by kernel_rfl
theorem Qxl : cQ 345 Qqw = true := by kernel_rfl
theorem Qwa : cQ 346 Qrc = true := by kernel_rfl
theorem Qvp : cQ 347 Qk9 = true := by kernel_rfl
theorem Qtp : cQ 348 Qng = true := by kernel_rfl
theorem Qt7 : cQ 349 Qoj = true := by kernel_rfl
end
end Go.Av
namespace Go.Av
noncomputable section
open Go.Proofs
set_option maxRecDepth 100000
theorem Qx8 : cQ 350 Qlc = true := by kernel_rfl
theorem Qzg : cQ 351 Qrv = true := by kernel_rfl
theorem Qyj : cQ 352 Qm1 = true := by kernel_rfl
theorem Qsv : cQ 353 Qmq = true := by kernel_rfl
theorem Qya : cQ 354 Qr2 = true := by kernel_rfl
theorem Qxp : cQ 355 Qoi = true := by kernel_rfl
theorem Qso : cQ 356 Qpz = true := by kernel_rfl
theorem Qux : cQ 357 Qjw = true := by kernel_rfl
theorem Qxz : cQ 358 Qs0 = true := by kernel_rfl
theorem Qzh : cQ 359 Qnr = true := by kernel_rfl
theorem Qym : cQ 360 Qrq = true := by kernel_rfl
theorem Qu8 : cQ 361 Qow = true := by kernel_rfl
theorem Qt1 : cQ 364 Qpe = true := by kernel_rfl
theorem Qvg : cQ 365 Qmv = true := by kernel_rfl
theorem Qt9 : cQ 366 Qqr = true := by kernel_rfl
theorem Qu2 : cQ 367 Qjy = true := by kernel_rfl
theorem Qum : cQ 368 Qk3 = true := by kernel_rfl
theorem Qzf : cQ 369 Qom = true := by kernel_rfl
theorem Qtg : cQ 370 Qmz = true := by kernel_rfl
theorem Qsi : cQ 372 Qp1 = true := by kernel_rfl
theorem Qxi : cQ 373 Qnl = true := by kernel_rfl
theorem Qyk : cQ 374 Qk5 = true := by kernel_rfl
theorem Qyp : cQ 375 Qo9 = true := by kernel_rfl
theorem Qy6 : cQ 376 Ql0 = true := by kernel_rfl
theorem Qvj : cQ 394 Qs8 = true := by kernel_rfl
theorem Qw6 : cQ 395 Qor = true := by kernel_rfl
theorem Qv0 : cQ 396 Qq0 = true := by kernel_rfl
theorem Qsp : cQ 397 Qog = true := by kernel_rfl
theorem Qtf : cQ 398 Qml = true := by kernel_rfl
theorem Qxm : cQ 399 Qmg = true := by kernel_rfl
theorem Qti : cQ 400 Qqh = true := by kernel_rfl
theorem Qz6 : cQ 402 Qq1 = true := by kernel_rfl
theorem Qzp : cQ 404 Qnd = true := by kernel_rfl
theorem Qtq : cQ 406 Ql6 = true := by kernel_rfl
end
end Go.Av

