/- Part of the proof of CrossBack: for every input the law returns true; no condition. -/
import Derived.Test.YthdffmbnmkmhlaaGreatDoorCode1
import Derived.Test.YthdffmbnmkmhlaaGreatDoorAvChk
import Derived.KernelRfl
import Derived.Test.YthdffmbnmkmhlaaGreatDoorProg
namespace Go.Av
noncomputable section
open Go.Proofs
set_option maxRecDepth 100000
abbrev cQ := Q0i Tryz.prog
theorem k3 : cQ 3 c3 = true := by kernel_rfl
theorem k4 : cQ 4 c4 = true := by kernel_rfl
theorem k5 : cQ 5 c5 = true := by kernel_rfl
theorem k6 : cQ 6 c6 = true := by kernel_rfl
theorem k7 : cQ 7 c7 = true := by kernel_rfl
theorem k8 : cQ 8 c8 = true := by kernel_rfl
theorem k9 : cQ 9 c9 = true := by kernel_rfl
theorem k10 : cQ 10 c10 = true := by kernel_rfl
theorem k11 : cQ 11 c11 = true := by kernel_rfl
theorem k12 : cQ 12 c12 = true := by kernel_rfl
theorem k13 : cQ 13 c13 = true := by kernel_rfl
theorem k14 : cQ 14 c14 = true := by kernel_rfl
theorem k15 : cQ 15 c15 = true := by kernel_rfl
theorem k16 : cQ 16 c16 = true := by kernel_rfl
theorem k17 : cQ 17 c17 = true := by kernel_rfl
theorem k18 : cQ 18 c18 = true := by kernel_rfl
theorem k19 : cQ 19 c19 = true := by kernel_rfl
theorem k20 : cQ 20 c20 = true := by kernel_rfl
theorem k21 : cQ 21 c21 = true := by kernel_rfl
theorem k22 : cQ 22 c22 = true := by kernel_rfl
theorem k23 : cQ 23 c23 = true := by kernel_rfl
end
end Go.Av
namespace Go.Av
noncomputable section
open Go.Proofs
set_option maxRecDepth 100000
theorem k24 : cQ 24 c24 = true := by kernel_rfl
theorem k25 : cQ 25 c25 = true := by kernel_rfl
theorem k26 : cQ 26 c26 = true := by kernel_rfl
theorem k27 : cQ 27 c27 = true := by kernel_rfl
theorem k28 : cQ 28 c28 = true := by kernel_rfl
theorem k29 : cQ 29 c29 = true := by kernel_rfl
theorem k30 : cQ 30 c30 = true := by kernel_rfl
theorem k31 : cQ 31 c31 = true := by kernel_rfl
theorem k32 : cQ 32 c32 = true := by kernel_rfl
theorem k33 : cQ 33 c33 = true := by kernel_rfl
theorem k34 : cQ 34 c34 = true := by kernel_rfl
theorem k35 : cQ 35 c35 = true := by kernel_rfl
theorem k36 : cQ 36 c36 = true := by kernel_rfl
theorem k37 : cQ 37 c37 = true := by kernel_rfl
theorem k38 : cQ 38 c38 = true := by kernel_rfl
theorem k39 : cQ 39 c39 = true := by kernel_rfl
theorem k40 : cQ 40 c40 = true := by kernel_rfl
theorem k41 : cQ 41 c41 = true := by kernel_rfl
theorem k42 : cQ 42 c42 = true := by kernel_rfl
theorem k43 : cQ 43 c43 = true := by kernel_rfl
theorem k44 : cQ 44 c44 = true := by kernel_rfl
theorem k45 : cQ 45 c45 = true := by kernel_rfl
theorem k46 : cQ 46 c46 = true := by kernel_rfl
theorem k47 : cQ 47 c47 = true := by kernel_rfl
theorem k48 : cQ 48 c48 = true := by kernel_rfl
theorem k49 : cQ 49 c49 = true := by kernel_rfl
theorem k50 : cQ 50 c50 = true := by kernel_rfl
theorem k51 : cQ 51 c51 = true := by kernel_rfl
theorem k52 : cQ 52 c52 = true := by kernel_rfl
theorem k53 : cQ 53 c53 = true := by kernel_rfl
theorem k54 : cQ 54 c54 = true := by kernel_rfl
theorem k55 : cQ 55 c55 = true := by kernel_rfl
theorem k56 : cQ 56 c56 = true := by kernel_rfl
theorem k57 : cQ 57 c57 = true := by kernel_rfl
theorem k58 : cQ 58 c58 = true := by kernel_rfl
theorem k59 : cQ 59 c59 = true := by kernel_rfl
theorem k60 : cQ 60 c60 = true := by kernel_rfl
theorem k61 : cQ 61 c61 = true := by kernel_rfl
theorem k62 : cQ 62 c62 = true := by kernel_rfl
theorem k63 : cQ 63 c63 = true := by kernel_rfl
theorem k64 : cQ 64 c64 = true := by kernel_rfl
theorem k65 : cQ 65 c65 = true := by kernel_rfl
theorem k66 : cQ 66 c66 = true := by kernel_rfl
theorem k67 : cQ 67 c67 = true := by kernel_rfl
theorem k68 : cQ 68 c68 = true := by kernel_rfl
theorem k69 : cQ 69 c69 = true := by kernel_rfl
theorem k70 : cQ 70 c70 = true := by kernel_rfl
theorem k71 : cQ 71 c71 = true := by kernel_rfl
theorem k72 : cQ 72 c72 = true := by kernel_rfl
theorem k73 : cQ 73 c73 = true := by kernel_rfl
end
end Go.Av
namespace Go.Av
noncomputable section
open Go.Proofs
set_option maxRecDepth 100000
theorem k74 : cQ 74 c74 = true := by kernel_rfl
theorem k75 : cQ 75 c75 = true := by kernel_rfl
theorem k76 : cQ 76 c76 = true := by kernel_rfl
theorem k77 : cQ 77 c77 = true := by kernel_rfl
theorem k78 : cQ 78 c78 = true := by kernel_rfl
theorem k79 : cQ 79 c79 = true := by kernel_rfl
theorem k80 : cQ 80 c80 = true := by kernel_rfl
theorem k81 : cQ 81 c81 = true := by kernel_rfl
theorem k82 : cQ 82 c82 = true := by kernel_rfl
theorem k83 : cQ 83 c83 = true := by kernel_rfl
theorem k84 : cQ 84 c84 = true := by kernel_rfl
theorem k85 : cQ 85 c85 = true := by kernel_rfl
theorem k86 : cQ 86 c86 = true := by kernel_rfl
theorem k87 : cQ 87 c87 = true := by kernel_rfl
theorem k88 : cQ 88 c88 = true := by kernel_rfl
theorem k89 : cQ 89 c89 = true := by kernel_rfl
theorem k90 : cQ 90 c90 = true := by kernel_rfl
theorem k91 : cQ 91 c91 = true := by kernel_rfl
theorem k92 : cQ 92 c92 = true := by kernel_rfl
theorem k93 : cQ 93 c93 = true := by kernel_rfl
theorem k94 : cQ 94 c94 = true := by kernel_rfl
theorem k95 : cQ 95 c95 = true := by kernel_rfl
theorem k96 : cQ 96 c96 = true := by kernel_rfl
theorem k97 : cQ 97 c97 = true := by kernel_rfl
theorem k98 : cQ 98 c98 = true := by kernel_rfl
theorem k99 : cQ 99 c99 = true := by kernel_rfl
theorem Z7y : cQ 100 Zdl = true := by kernel_rfl
theorem Zg4 : cQ 101 Z82 = true := by kernel_rfl
theorem Qqr : cQ 102 Z7r = true := by kernel_rfl
theorem Z5u : cQ 103 Z8a = true := by kernel_rfl
theorem Zfy : cQ 104 Zd3 = true := by kernel_rfl
theorem Zgk : cQ 105 Z62 = true := by kernel_rfl
theorem Zau : cQ 106 Zah = true := by kernel_rfl
theorem Zb0 : cQ 107 Zek = true := by kernel_rfl
theorem Zlk : cQ 108 Zag = true := by kernel_rfl
theorem Zlo : cQ 109 Zc6 = true := by kernel_rfl
theorem Zjs : cQ 110 Z8l = true := by kernel_rfl
theorem Zlw : cQ 111 Z6j = true := by kernel_rfl
theorem Zl3 : cQ 112 Zcn = true := by kernel_rfl
theorem Zjt : cQ 113 Zbw = true := by kernel_rfl
theorem Z6g : cQ 114 Zbv = true := by kernel_rfl
theorem Za6 : cQ 115 Z9w = true := by kernel_rfl
theorem Zkw : cQ 116 Z7g = true := by kernel_rfl
end
end Go.Av
namespace Go.Av
noncomputable section
open Go.Proofs
set_option maxRecDepth 100000
theorem Zi4 : cQ 117 Zg5 = true := by kernel_rfl
theorem Zfv : cQ 118 Zbo = true := by kernel_rfl
theorem Zd8 : cQ 119 Z8h = true := by kernel_rfl
theorem Zgm : cQ 120 Zbf = true := by kernel_rfl
theorem Zdg : cQ 121 Z68 = true := by kernel_rfl
theorem Zfh : cQ 122 Z83 = true := by kernel_rfl
theorem Zh1 : cQ 123 Z8g = true := by kernel_rfl
theorem Zkc : cQ 124 Zg6 = true := by kernel_rfl
theorem Znm : cQ 125 Z9b = true := by kernel_rfl
theorem Zkf : cQ 126 Zgi = true := by kernel_rfl
theorem Zgo : cQ 127 Zbk = true := by kernel_rfl
theorem Zgt : cQ 128 Zfe = true := by kernel_rfl
theorem Z7t : cQ 129 Zde = true := by kernel_rfl
theorem Zcx : cQ 130 Za7 = true := by kernel_rfl
theorem Za2 : cQ 131 Z8q = true := by kernel_rfl
theorem Z6t : cQ 132 Z81 = true := by kernel_rfl
theorem Zgr : cQ 133 Z5y = true := by kernel_rfl
theorem Z66 : cQ 134 Zee = true := by kernel_rfl
theorem Z6h : cQ 135 Zaq = true := by kernel_rfl
theorem Z6m : cQ 136 Zgl = true := by kernel_rfl
theorem Zb7 : cQ 137 Z6x = true := by kernel_rfl
theorem Z8b : cQ 138 Zbu = true := by kernel_rfl
theorem Zey : cQ 139 Ze1 = true := by kernel_rfl
theorem Z9m : cQ 140 Zar = true := by kernel_rfl
theorem Z8z : cQ 141 Zbh = true := by kernel_rfl
theorem Z8n : cQ 142 Zdx = true := by kernel_rfl
theorem Zfa : cQ 143 Z7f = true := by kernel_rfl
theorem Zfb : cQ 144 Zc4 = true := by kernel_rfl
theorem Zck : cQ 145 Zd9 = true := by kernel_rfl
theorem Z93 : cQ 146 Zef = true := by kernel_rfl
theorem Zei : cQ 147 Zfg = true := by kernel_rfl
theorem Zge : cQ 148 Zgd = true := by kernel_rfl
theorem Zl7 : cQ 149 Zbi = true := by kernel_rfl
theorem Zcq : cQ 150 Zga = true := by kernel_rfl
theorem Ze9 : cQ 151 Zdk = true := by kernel_rfl
theorem Za1 : cQ 152 Z9r = true := by kernel_rfl
theorem Z7u : cQ 153 Zas = true := by kernel_rfl
theorem Z6w : cQ 154 Z5k = true := by kernel_rfl
theorem Zl6 : cQ 155 Zbt = true := by kernel_rfl
theorem Zle : cQ 156 Zc7 = true := by kernel_rfl
theorem Zjw : cQ 157 Zdp = true := by kernel_rfl
theorem Zk4 : cQ 158 Z7d = true := by kernel_rfl
end
end Go.Av
namespace Go.Av
noncomputable section
open Go.Proofs
set_option maxRecDepth 100000
theorem Zh5 : cQ 159 Zf2 = true := by kernel_rfl
theorem Zk3 : cQ 160 Zc3 = true := by kernel_rfl
theorem Z5t : cQ 161 Za9 = true := by kernel_rfl
theorem Zak : cQ 162 Z7e = true := by kernel_rfl
theorem Zem : cQ 163 Z7c = true := by kernel_rfl
theorem Z9s : cQ 164 Z5l = true := by kernel_rfl
theorem Zcd : cQ 165 Zex = true := by kernel_rfl
theorem Zfj : cQ 166 Z5x = true := by kernel_rfl
theorem Zks : cQ 167 Z78 = true := by kernel_rfl
theorem Zmf : cQ 168 Z95 = true := by kernel_rfl
theorem Zlr : cQ 169 Z89 = true := by kernel_rfl
theorem Zmd : cQ 170 Z7m = true := by kernel_rfl
theorem Z9e : cQ 171 Z9y = true := by kernel_rfl
theorem Z9a : cQ 172 Z6u = true := by kernel_rfl
theorem Zfq : cQ 173 Z5v = true := by kernel_rfl
theorem Z9p : cQ 174 Z7n = true := by kernel_rfl
theorem Zbq : cQ 175 Z8i = true := by kernel_rfl
theorem Zgb : cQ 176 Z9u = true := by kernel_rfl
theorem Zkg : cQ 177 Z9h = true := by kernel_rfl
theorem Z87 : cQ 178 Z8f = true := by kernel_rfl
theorem Zgg : cQ 179 Z8s = true := by kernel_rfl
theorem Zay : cQ 180 Zcu = true := by kernel_rfl
theorem Zav : cQ 181 Zcr = true := by kernel_rfl
theorem Zbg : cQ 182 Z9x = true := by kernel_rfl
theorem Zcl : cQ 183 Z5z = true := by kernel_rfl
theorem Z72 : cQ 184 Z8y = true := by kernel_rfl
theorem Zgf : cQ 185 Zgs = true := by kernel_rfl
theorem Zgn : cQ 186 Zdw = true := by kernel_rfl
theorem Zg0 : cQ 187 Zba = true := by kernel_rfl
theorem Z6s : cQ 188 Zfs = true := by kernel_rfl
theorem Zen : cQ 189 Ze5 = true := by kernel_rfl
theorem Zdh : cQ 190 Z9g = true := by kernel_rfl
theorem Znr : cQ 191 Zac = true := by kernel_rfl
theorem Zf1 : cQ 192 Zev = true := by kernel_rfl
theorem Z6c : cQ 193 Zb2 = true := by kernel_rfl
theorem Zhb : cQ 194 Zc8 = true := by kernel_rfl
theorem Zm0 : cQ 196 Z9c = true := by kernel_rfl
theorem Zls : cQ 197 Zfk = true := by kernel_rfl
theorem Zjm : cQ 198 Zcf = true := by kernel_rfl
theorem Zkh : cQ 199 Z8j = true := by kernel_rfl
theorem Zjj : cQ 200 Zdr = true := by kernel_rfl
theorem Zfd : cQ 201 Zf6 = true := by kernel_rfl
theorem Zk1 : cQ 202 Zd7 = true := by kernel_rfl
theorem Zm2 : cQ 203 Z8r = true := by kernel_rfl
end
end Go.Av
namespace Go.Av
noncomputable section
open Go.Proofs
set_option maxRecDepth 100000
theorem Z9k : cQ 204 Zbb = true := by kernel_rfl
theorem Zhf : cQ 205 Z9i = true := by kernel_rfl
theorem Znl : cQ 206 Z7z = true := by kernel_rfl
theorem Zh9 : cQ 207 Z9j = true := by kernel_rfl
theorem Zby : cQ 208 Z79 = true := by kernel_rfl
theorem Ze0 : cQ 209 Z76 = true := by kernel_rfl
theorem Zg3 : cQ 210 Zcb = true := by kernel_rfl
theorem Z74 : cQ 211 Z7q = true := by kernel_rfl
theorem Zj2 : cQ 212 Zax = true := by kernel_rfl
theorem Zh4 : cQ 213 Zfi = true := by kernel_rfl
theorem Zn3 : cQ 214 Zcy = true := by kernel_rfl
theorem Zm9 : cQ 215 Zeh = true := by kernel_rfl
theorem Zm7 : cQ 216 Zft = true := by kernel_rfl
theorem Zk0 : cQ 217 Zgh = true := by kernel_rfl
theorem Zkl : cQ 218 Z9l = true := by kernel_rfl
theorem Zme : cQ 219 Zdu = true := by kernel_rfl
theorem Zji : cQ 220 Z5p = true := by kernel_rfl
theorem Zlb : cQ 221 Z9f = true := by kernel_rfl
theorem Z5q : cQ 222 Zda = true := by kernel_rfl
theorem Zl9 : cQ 223 Zch = true := by kernel_rfl
theorem Zjy : cQ 224 Zad = true := by kernel_rfl
theorem Zgz : cQ 225 Zes = true := by kernel_rfl
theorem Zh2 : cQ 226 Z77 = true := by kernel_rfl
theorem Zkr : cQ 227 Zb6 = true := by kernel_rfl
theorem Znk : cQ 228 Z7j = true := by kernel_rfl
theorem Zmj : cQ 229 Zc5 = true := by kernel_rfl
theorem Zkd : cQ 230 Zdy = true := by kernel_rfl
theorem Zim : cQ 231 Zea = true := by kernel_rfl
theorem Zb4 : cQ 232 Zb1 = true := by kernel_rfl
theorem Zll : cQ 233 Zai = true := by kernel_rfl
theorem Zhe : cQ 234 Zg7 = true := by kernel_rfl
theorem Zht : cQ 235 Zez = true := by kernel_rfl
theorem Zhp : cQ 236 Z6r = true := by kernel_rfl
theorem Zhy : cQ 237 Zb9 = true := by kernel_rfl
theorem Znc : cQ 238 Zaf = true := by kernel_rfl
theorem Zi1 : cQ 239 Z6f = true := by kernel_rfl
theorem Zly : cQ 240 Zct = true := by kernel_rfl
theorem Zko : cQ 241 Zf7 = true := by kernel_rfl
theorem Ziy : cQ 242 Zeb = true := by kernel_rfl
theorem Zmr : cQ 243 Z6e = true := by kernel_rfl
end
end Go.Av
namespace Go.Av
noncomputable section
open Go.Proofs
set_option maxRecDepth 100000
theorem Zm5 : cQ 244 Z91 = true := by kernel_rfl
theorem Zih : cQ 246 Z7p = true := by kernel_rfl
theorem Zil : cQ 247 Zat = true := by kernel_rfl
theorem Zlt : cQ 248 Zec = true := by kernel_rfl
theorem Zho : cQ 249 Z7k = true := by kernel_rfl
theorem Zj4 : cQ 250 Zfr = true := by kernel_rfl
theorem Zi7 : cQ 251 Za5 = true := by kernel_rfl
theorem Zj1 : cQ 252 Zaw = true := by kernel_rfl
theorem Znh : cQ 253 Zbs = true := by kernel_rfl
theorem Zl4 : cQ 254 Z6z = true := by kernel_rfl
theorem Zna : cQ 255 Zdi = true := by kernel_rfl
theorem Zgx : cQ 256 Za8 = true := by kernel_rfl
theorem Znq : cQ 257 Zff = true := by kernel_rfl
theorem Zhr : cQ 258 Zd1 = true := by kernel_rfl
theorem Znv : cQ 259 Z6n = true := by kernel_rfl
theorem Znu : cQ 260 Z84 = true := by kernel_rfl
theorem Zkj : cQ 261 Z8w = true := by kernel_rfl
theorem Zlc : cQ 262 Z7o = true := by kernel_rfl
theorem Ziq : cQ 263 Ze8 = true := by kernel_rfl
theorem Zln : cQ 264 Zfm = true := by kernel_rfl
theorem Zhd : cQ 265 Zco = true := by kernel_rfl
theorem Zjr : cQ 266 Zgw = true := by kernel_rfl
theorem Zj7 : cQ 267 Zd4 = true := by kernel_rfl
theorem Zkb : cQ 268 Zdq = true := by kernel_rfl
theorem Zjx : cQ 269 Zfw = true := by kernel_rfl
theorem Znf : cQ 270 Zfu = true := by kernel_rfl
end
end Go.Av
namespace Go.Av
noncomputable section
open Go.Proofs
set_option maxRecDepth 100000
theorem Zha : cQ 271 Z5o = true := by kernel_rfl
theorem Zmt : cQ 272 Zd0 = true := by kernel_rfl
theorem Zjv : cQ 273 Z5m = true := by kernel_rfl
theorem Zne : cQ 274 Z60 = true := by kernel_rfl
theorem Zif : cQ 275 Z8m = true := by kernel_rfl
theorem Zno : cQ 276 Z98 = true := by kernel_rfl
theorem Zkk : cQ 277 Z75 = true := by kernel_rfl
theorem Zk5 : cQ 278 Zdo = true := by kernel_rfl
theorem Zix : cQ 279 Zf5 = true := by kernel_rfl
theorem Zmn : cQ 280 Z6v = true := by kernel_rfl
theorem Zmu : cQ 281 Zaz = true := by kernel_rfl
theorem Zn0 : cQ 282 Zdn = true := by kernel_rfl
theorem Zml : cQ 283 Zbm = true := by kernel_rfl
theorem Zju : cQ 284 Zdt = true := by kernel_rfl
theorem Zlz : cQ 285 Z61 = true := by kernel_rfl
theorem Znd : cQ 286 Zc9 = true := by kernel_rfl
theorem Zk6 : cQ 287 Z9z = true := by kernel_rfl
theorem Ziv : cQ 288 Zeq = true := by kernel_rfl
theorem Zl1 : cQ 289 Z8x = true := by kernel_rfl
theorem Zn7 : cQ 290 Z5s = true := by kernel_rfl
theorem Zmo : cQ 291 Zdc = true := by kernel_rfl
theorem Zn1 : cQ 292 Zd2 = true := by kernel_rfl
theorem Zjl : cQ 293 Zf3 = true := by kernel_rfl
theorem Zma : cQ 294 Z7w = true := by kernel_rfl
theorem Zik : cQ 295 Zc0 = true := by kernel_rfl
theorem Zli : cQ 296 Z6k = true := by kernel_rfl
theorem Zmx : cQ 297 Z71 = true := by kernel_rfl
theorem Zj5 : cQ 298 Z6l = true := by kernel_rfl
theorem Zkm : cQ 299 Zds = true := by kernel_rfl
theorem Zm6 : cQ 300 Zeg = true := by kernel_rfl
theorem Zjb : cQ 301 Zet = true := by kernel_rfl
theorem Zl2 : cQ 302 Z7s = true := by kernel_rfl
theorem Znn : cQ 303 Zgj = true := by kernel_rfl
theorem Zn8 : cQ 304 Z7x = true := by kernel_rfl
theorem Zjp : cQ 305 Zcs = true := by kernel_rfl
theorem Zlp : cQ 306 Z7i = true := by kernel_rfl
theorem Zkv : cQ 307 Z9d = true := by kernel_rfl
theorem Zmi : cQ 308 Zdj = true := by kernel_rfl
theorem Zlm : cQ 309 Z67 = true := by kernel_rfl
theorem Zjd : cQ 310 Z97 = true := by kernel_rfl
theorem Zhk : cQ 311 Z8d = true := by kernel_rfl
theorem Zjk : cQ 312 Ze6 = true := by kernel_rfl
theorem Zi2 : cQ 313 Zbe = true := by kernel_rfl
theorem Zk2 : cQ 314 Z5w = true := by kernel_rfl
theorem Zmv : cQ 315 Zew = true := by kernel_rfl
theorem Zi0 : cQ 316 Zd5 = true := by kernel_rfl
theorem Zkn : cQ 317 Zg8 = true := by kernel_rfl
theorem Zla : cQ 318 Zam = true := by kernel_rfl
theorem Zlv : cQ 319 Z8u = true := by kernel_rfl
theorem Zhs : cQ 320 Z70 = true := by kernel_rfl
theorem Zkp : cQ 321 Zep = true := by kernel_rfl
theorem Zhm : cQ 322 Zce = true := by kernel_rfl
theorem Zh0 : cQ 323 Z6p = true := by kernel_rfl
theorem Zjg : cQ 324 Zbx = true := by kernel_rfl
theorem Zk9 : cQ 325 Z96 = true := by kernel_rfl
theorem Zm1 : cQ 326 Z86 = true := by kernel_rfl
theorem Zk8 : cQ 327 Zcp = true := by kernel_rfl
theorem Zmw : cQ 328 Zdd = true := by kernel_rfl
end
end Go.Av
namespace Go.Av
noncomputable section
open Go.Proofs
set_option maxRecDepth 100000
theorem Zjc : cQ 329 Zbd = true := by kernel_rfl
theorem Zn6 : cQ 330 Zer = true := by kernel_rfl
theorem Znw : cQ 331 Zej = true := by kernel_rfl
theorem Zi3 : cQ 332 Zal = true := by kernel_rfl
theorem Zi6 : cQ 333 Zf8 = true := by kernel_rfl
theorem Zku : cQ 334 Z65 = true := by kernel_rfl
theorem Zni : cQ 335 Z5r = true := by kernel_rfl
theorem Zjh : cQ 336 Zeu = true := by kernel_rfl
theorem Zj9 : cQ 337 Z8p = true := by kernel_rfl
theorem Zlj : cQ 338 Zgu = true := by kernel_rfl
theorem Zhu : cQ 339 Zg1 = true := by kernel_rfl
theorem Zlf : cQ 340 Zd6 = true := by kernel_rfl
theorem Zl8 : cQ 341 Zaa = true := by kernel_rfl
theorem Zmb : cQ 342 Zcw = true := by kernel_rfl
theorem Zl5 : cQ 343 Z80 = true := by kernel_rfl
theorem Zhg : cQ 344 Zfp = true := by kernel_rfl
theorem Zkx : cQ 345 Zbj = true := by kernel_rfl
theorem Zn9 : cQ 346 Z73 = true := by kernel_rfl
theorem Zlx : cQ 347 Zfc = true := by kernel_rfl
theorem Zi8 : cQ 348 Z9q = true := by kernel_rfl
theorem Zi5 : cQ 349 Z69 = true := by kernel_rfl
theorem Zkz : cQ 350 Z8o = true := by kernel_rfl
theorem Zn4 : cQ 351 Zao = true := by kernel_rfl
theorem Zii : cQ 352 Z94 = true := by kernel_rfl
theorem Zm3 : cQ 353 Z99 = true := by kernel_rfl
theorem Zis : cQ 354 Zbc = true := by kernel_rfl
theorem Ziz : cQ 355 Z64 = true := by kernel_rfl
theorem Zlu : cQ 356 Zb5 = true := by kernel_rfl
theorem Zhl : cQ 357 Z90 = true := by kernel_rfl
theorem Zh8 : cQ 358 Z63 = true := by kernel_rfl
theorem Zmk : cQ 359 Zdb = true := by kernel_rfl
theorem Zkq : cQ 360 Za0 = true := by kernel_rfl
theorem Zjf : cQ 361 Zdm = true := by kernel_rfl
theorem Zjz : cQ 362 Zan = true := by kernel_rfl
theorem Zhh : cQ 363 Zf4 = true := by kernel_rfl
theorem Zlh : cQ 364 Zap = true := by kernel_rfl
theorem Zhz : cQ 365 Zae = true := by kernel_rfl
theorem Zir : cQ 366 Z8k = true := by kernel_rfl
theorem Zhj : cQ 367 Z8e = true := by kernel_rfl
theorem Zmp : cQ 368 Zcm = true := by kernel_rfl
theorem Zkt : cQ 369 Zcz = true := by kernel_rfl
theorem Zi9 : cQ 370 Zeo = true := by kernel_rfl
theorem Zic : cQ 371 Zc2 = true := by kernel_rfl
theorem Zm8 : cQ 372 Za4 = true := by kernel_rfl
theorem Zmm : cQ 373 Zfz = true := by kernel_rfl
theorem Zhv : cQ 374 Za3 = true := by kernel_rfl
theorem Zip : cQ 375 Z6o = true := by kernel_rfl
theorem Zka : cQ 376 Zbr = true := by kernel_rfl
theorem Zhq : cQ 377 Z6i = true := by kernel_rfl
theorem Zj3 : cQ 378 Zdv = true := by kernel_rfl
theorem Zhc : cQ 379 Z8c = true := by kernel_rfl
theorem Zja : cQ 380 Zed = true := by kernel_rfl
theorem Zh7 : cQ 381 Zc1 = true := by kernel_rfl
theorem Zjq : cQ 382 Z6q = true := by kernel_rfl
theorem Zj6 : cQ 383 Zcc = true := by kernel_rfl
theorem Zns : cQ 384 Z9o = true := by kernel_rfl
theorem Zlq : cQ 385 Zcv = true := by kernel_rfl
theorem Zia : cQ 386 Z92 = true := by kernel_rfl
theorem Zie : cQ 387 Zgv = true := by kernel_rfl
theorem Zng : cQ 388 Zcj = true := by kernel_rfl
theorem Zm4 : cQ 389 Z6y = true := by kernel_rfl
theorem Zij : cQ 390 Z6b = true := by kernel_rfl
theorem Ziu : cQ 391 Z5n = true := by kernel_rfl
theorem Znj : cQ 392 Zgp = true := by kernel_rfl
theorem Znt : cQ 395 Zbl = true := by kernel_rfl
theorem Zin : cQ 396 Z7h = true := by kernel_rfl
theorem Zig : cQ 397 Zbp = true := by kernel_rfl
theorem Zmq : cQ 398 Zcg = true := by kernel_rfl
end
end Go.Av
namespace Go.Av
noncomputable section
open Go.Proofs
set_option maxRecDepth 100000
theorem Zhi : cQ 399 Z7l = true := by kernel_rfl
theorem Zhx : cQ 400 Zb8 = true := by kernel_rfl
theorem Zj0 : cQ 401 Zab = true := by kernel_rfl
theorem Znb : cQ 403 Zgq = true := by kernel_rfl
theorem Zke : cQ 404 Z6d = true := by kernel_rfl
theorem Zit : cQ 405 Zfn = true := by kernel_rfl
theorem Zid : cQ 406 Ze2 = true := by kernel_rfl
theorem Zn5 : cQ 407 Ze7 = true := by kernel_rfl
end
end Go.Av

