/- Part of the proof of EventOwn: for every input the law returns true; no condition. -/
import Derived.Test.YtnbdhlnkhdhohaaGreatDoorCode1
import Derived.Test.YtnbdhlnkhdhohaaGreatDoorAvChk
import Derived.KernelRfl
import Derived.Test.YtnbdhlnkhdhohaaGreatDoorProg
namespace Go.Av
noncomputable section
open Go.Proofs
set_option maxRecDepth 100000
abbrev cQ := Q1a Tryz.prog
theorem k3 : cQ 3 c3 = true := by kernel_rfl
theorem k4 : cQ 4 c4 = true := by kernel_rfl
theorem k5 : cQ 5 c5 = true := by kernel_rfl
theorem k6 : cQ 6 c6 = true := by kernel_rfl
theorem k7 : cQ 7 c7 = true := by kernel_rfl
theorem k8 : cQ 8 c8 = true := by kernel_rfl
theorem k9 : cQ 9 c9 = true := by kernel_rfl
theorem k10 : cQ 10 c10 = true := by kernel_rfl
theorem k11 : cQ 11 c11 = true := by kernel_rfl
theorem k12 : cQ 12 c12 = true := by kernel_rfl
theorem k13 : cQ 13 c13 = true := by kernel_rfl
theorem k14 : cQ 14 c14 = true := by kernel_rfl
theorem k15 : cQ 15 c15 = true := by kernel_rfl
theorem k16 : cQ 16 c16 = true := by kernel_rfl
theorem k17 : cQ 17 c17 = true := by kernel_rfl
theorem k18 : cQ 18 c18 = true := by kernel_rfl
theorem k19 : cQ 19 c19 = true := by kernel_rfl
theorem k20 : cQ 20 c20 = true := by kernel_rfl
theorem k21 : cQ 21 c21 = true := by kernel_rfl
theorem k22 : cQ 22 c22 = true := by kernel_rfl
theorem k23 : cQ 23 c23 = true := by kernel_rfl
theorem k24 : cQ 24 c24 = true := by kernel_rfl
theorem k25 : cQ 25 c25 = true := by kernel_rfl
theorem k26 : cQ 26 c26 = true := by kernel_rfl
theorem k27 : cQ 27 c27 = true := by kernel_rfl
theorem k28 : cQ 28 c28 = true := by kernel_rfl
theorem k29 : cQ 29 c29 = true := by kernel_rfl
theorem k30 : cQ 30 c30 = true := by kernel_rfl
theorem k31 : cQ 31 c31 = true := by kernel_rfl
theorem k32 : cQ 32 c32 = true := by kernel_rfl
theorem k33 : cQ 33 c33 = true := by kernel_rfl
theorem k34 : cQ 34 c34 = true := by kernel_rfl
theorem k35 : cQ 35 c35 = true := by kernel_rfl
theorem k36 : cQ 36 c36 = true := by kernel_rfl
theorem k37 : cQ 37 c37 = true := by kernel_rfl
theorem k38 : cQ 38 c38 = true := by kernel_rfl
theorem k39 : cQ 39 c39 = true := by kernel_rfl
theorem k40 : cQ 40 c40 = true := by kernel_rfl
theorem k41 : cQ 41 c41 = true := by kernel_rfl
theorem k42 : cQ 42 c42 = true := by kernel_rfl
theorem k43 : cQ 43 c43 = true := by kernel_rfl
theorem k44 : cQ 44 c44 = true := by kernel_rfl
theorem k45 : cQ 45 c45 = true := by kernel_rfl
theorem k46 : cQ 46 c46 = true := by kernel_rfl
end
end Go.Av
namespace Go.Av
noncomputable section
open Go.Proofs
set_option maxRecDepth 100000
theorem k47 : cQ 47 c47 = true := by kernel_rfl
theorem k48 : cQ 48 c48 = true := by kernel_rfl
theorem k49 : cQ 49 c49 = true := by kernel_rfl
theorem k50 : cQ 50 c50 = true := by kernel_rfl
theorem k51 : cQ 51 c51 = true := by kernel_rfl
theorem k52 : cQ 52 c52 = true := by kernel_rfl
theorem k53 : cQ 53 c53 = true := by kernel_rfl
theorem k54 : cQ 54 c54 = true := by kernel_rfl
theorem k55 : cQ 55 c55 = true := by kernel_rfl
theorem k56 : cQ 56 c56 = true := by kernel_rfl
theorem k57 : cQ 57 c57 = true := by kernel_rfl
theorem k58 : cQ 58 c58 = true := by kernel_rfl
theorem k59 : cQ 59 c59 = true := by kernel_rfl
theorem k60 : cQ 60 c60 = true := by kernel_rfl
theorem k61 : cQ 61 c61 = true := by kernel_rfl
theorem k62 : cQ 62 c62 = true := by kernel_rfl
theorem k63 : cQ 63 c63 = true := by kernel_rfl
theorem k64 : cQ 64 c64 = true := by kernel_rfl
theorem k65 : cQ 65 c65 = true := by kernel_rfl
theorem k66 : cQ 66 c66 = true := by kernel_rfl
theorem k67 : cQ 67 c67 = true := by kernel_rfl
theorem k68 : cQ 68 c68 = true := by kernel_rfl
theorem k69 : cQ 69 c69 = true := by kernel_rfl
theorem k70 : cQ 70 c70 = true := by kernel_rfl
theorem k71 : cQ 71 c71 = true := by kernel_rfl
theorem k72 : cQ 72 c72 = true := by kernel_rfl
theorem k73 : cQ 73 c73 = true := by kernel_rfl
theorem k74 : cQ 74 c74 = true := by kernel_rfl
theorem k75 : cQ 75 c75 = true := by kernel_rfl
theorem k76 : cQ 76 c76 = true := by kernel_rfl
theorem k77 : cQ 77 c77 = true := by kernel_rfl
theorem k78 : cQ 78 c78 = true := by kernel_rfl
theorem k79 : cQ 79 c79 = true := by kernel_rfl
theorem k80 : cQ 80 c80 = true := by kernel_rfl
theorem k81 : cQ 81 c81 = true := by kernel_rfl
theorem k82 : cQ 82 c82 = true := by kernel_rfl
theorem k83 : cQ 83 c83 = true := by kernel_rfl
theorem k84 : cQ 84 c84 = true := by kernel_rfl
theorem k85 : cQ 85 c85 = true := by kernel_rfl
theorem k86 : cQ 86 c86 = true := by kernel_rfl
theorem k87 : cQ 87 c87 = true := by kernel_rfl
theorem k88 : cQ 88 c88 = true := by kernel_rfl
theorem k89 : cQ 89 c89 = true := by kernel_rfl
theorem k90 : cQ 90 c90 = true := by kernel_rfl
theorem k91 : cQ 91 c91 = true := by kernel_rfl
theorem k92 : cQ 92 c92 = true := by kernel_rfl
theorem k93 : cQ 93 c93 = true := by kernel_rfl
theorem k94 : cQ 94 c94 = true := by kernel_rfl
theorem k95 : cQ 95 c95 = true := by kernel_rfl
theorem k96 : cQ 96 c96 = true := by kernel_rfl
theorem k97 : cQ 97 c97 = true := by kernel_rfl
theorem k98 : cQ 98 c98 = true := by kernel_rfl
end
end Go.Av
namespace Go.Av
noncomputable section
open Go.Proofs
set_option maxRecDepth 100000
theorem k99 : cQ 99 c99 = true := by kernel_rfl
theorem Zbo : cQ 100 Z98 = true := by kernel_rfl
theorem Z85 : cQ 101 Zg3 = true := by kernel_rfl
theorem Zco : cQ 102 Z86 = true := by kernel_rfl
theorem Z60 : cQ 103 Z9a = true := by kernel_rfl
theorem Zdo : cQ 104 Zgs = true := by kernel_rfl
theorem Zg6 : cQ 105 Zea = true := by kernel_rfl
theorem Zf4 : cQ 106 Z8n = true := by kernel_rfl
theorem Zhi : cQ 107 Zg7 = true := by kernel_rfl
theorem Zil : cQ 108 Z55 = true := by kernel_rfl
theorem Zj7 : cQ 109 Zdl = true := by kernel_rfl
theorem Zi8 : cQ 110 Zg1 = true := by kernel_rfl
theorem Zan : cQ 111 Z8h = true := by kernel_rfl
theorem Z93 : cQ 112 Zdp = true := by kernel_rfl
theorem Za6 : cQ 113 Zds = true := by kernel_rfl
theorem Zfz : cQ 114 Zbu = true := by kernel_rfl
theorem Zcm : cQ 115 Zdy = true := by kernel_rfl
theorem Zg4 : cQ 116 Zat = true := by kernel_rfl
theorem Z8o : cQ 117 Zc4 = true := by kernel_rfl
theorem Zf2 : cQ 118 Z57 = true := by kernel_rfl
theorem Zca : cQ 119 Zfm = true := by kernel_rfl
theorem Z5r : cQ 120 Zff = true := by kernel_rfl
theorem Zc2 : cQ 121 Z7i = true := by kernel_rfl
theorem Z5j : cQ 122 Zdd = true := by kernel_rfl
theorem Zj6 : cQ 123 Z7l = true := by kernel_rfl
theorem Z9j : cQ 124 Zgq = true := by kernel_rfl
theorem Zhc : cQ 125 Z8d = true := by kernel_rfl
theorem Zb8 : cQ 126 Zdu = true := by kernel_rfl
theorem Zig : cQ 127 Z5k = true := by kernel_rfl
theorem Z5v : cQ 128 Z80 = true := by kernel_rfl
theorem Zhp : cQ 129 Zck = true := by kernel_rfl
theorem Zb6 : cQ 130 Z6b = true := by kernel_rfl
theorem Zh4 : cQ 131 Z7d = true := by kernel_rfl
theorem Zgz : cQ 132 Zac = true := by kernel_rfl
theorem Zfn : cQ 133 Zaq = true := by kernel_rfl
end
end Go.Av
namespace Go.Av
noncomputable section
open Go.Proofs
set_option maxRecDepth 100000
theorem Zao : cQ 134 Z9q = true := by kernel_rfl
theorem Z6f : cQ 135 Z7f = true := by kernel_rfl
theorem Z8v : cQ 136 Za7 = true := by kernel_rfl
theorem Z9e : cQ 137 Z5m = true := by kernel_rfl
theorem Zgh : cQ 138 Z6e = true := by kernel_rfl
theorem Zaj : cQ 139 Z81 = true := by kernel_rfl
theorem Zcr : cQ 140 Z9g = true := by kernel_rfl
theorem Z8t : cQ 141 Zex = true := by kernel_rfl
theorem Z89 : cQ 142 Z6j = true := by kernel_rfl
theorem Zd9 : cQ 143 Zbv = true := by kernel_rfl
theorem Zdw : cQ 144 Zcz = true := by kernel_rfl
theorem Z7y : cQ 145 Zcu = true := by kernel_rfl
theorem Zip : cQ 146 Zf3 = true := by kernel_rfl
theorem Zhb : cQ 147 Zey = true := by kernel_rfl
theorem Zhr : cQ 148 Z5q = true := by kernel_rfl
theorem Zje : cQ 149 Z8w = true := by kernel_rfl
theorem Zk1 : cQ 150 Zav = true := by kernel_rfl
theorem Ze3 : cQ 151 Ze0 = true := by kernel_rfl
theorem Zfb : cQ 152 Z8j = true := by kernel_rfl
theorem Z96 : cQ 153 Ze1 = true := by kernel_rfl
theorem Zjy : cQ 154 Zb0 = true := by kernel_rfl
theorem Z7b : cQ 156 Zep = true := by kernel_rfl
theorem Zgd : cQ 157 Zal = true := by kernel_rfl
theorem Zi5 : cQ 158 Z5x = true := by kernel_rfl
theorem Z8y : cQ 159 Z9r = true := by kernel_rfl
theorem Zih : cQ 160 Z5b = true := by kernel_rfl
theorem Zag : cQ 161 Zb9 = true := by kernel_rfl
theorem Zhz : cQ 162 Z6c = true := by kernel_rfl
theorem Zc0 : cQ 163 Z7v = true := by kernel_rfl
theorem Zhy : cQ 164 Zd8 = true := by kernel_rfl
theorem Zez : cQ 165 Z8r = true := by kernel_rfl
theorem Zjr : cQ 166 Z6d = true := by kernel_rfl
theorem Zas : cQ 167 Zfu = true := by kernel_rfl
theorem Z91 : cQ 168 Ze9 = true := by kernel_rfl
theorem Zfh : cQ 169 Zdh = true := by kernel_rfl
theorem Zdb : cQ 170 Z8c = true := by kernel_rfl
theorem Z63 : cQ 171 Z8e = true := by kernel_rfl
theorem Z6u : cQ 172 Zaz = true := by kernel_rfl
theorem Zgu : cQ 173 Zc6 = true := by kernel_rfl
theorem Z6w : cQ 174 Z7m = true := by kernel_rfl
theorem Zbb : cQ 175 Z7s = true := by kernel_rfl
end
end Go.Av
namespace Go.Av
noncomputable section
open Go.Proofs
set_option maxRecDepth 100000
theorem Zgt : cQ 176 Z64 = true := by kernel_rfl
theorem Zci : cQ 177 Zgg = true := by kernel_rfl
theorem Z8l : cQ 178 Zcg = true := by kernel_rfl
theorem Zk0 : cQ 179 Z8a = true := by kernel_rfl
theorem Z7c : cQ 180 Z84 = true := by kernel_rfl
theorem Ze7 : cQ 181 Z6p = true := by kernel_rfl
theorem Zgr : cQ 182 Zaf = true := by kernel_rfl
theorem Zk8 : cQ 183 Zc5 = true := by kernel_rfl
theorem Zjz : cQ 184 Zay = true := by kernel_rfl
theorem Zes : cQ 185 Zbw = true := by kernel_rfl
theorem Z76 : cQ 186 Za0 = true := by kernel_rfl
theorem Zbs : cQ 187 Z6q = true := by kernel_rfl
theorem Zgi : cQ 188 Zen = true := by kernel_rfl
theorem Za8 : cQ 189 Zfr = true := by kernel_rfl
theorem Zfj : cQ 190 Zd7 = true := by kernel_rfl
theorem Z97 : cQ 191 Zg9 = true := by kernel_rfl
theorem Zcy : cQ 192 Zcd = true := by kernel_rfl
theorem Zjb : cQ 193 Zaa = true := by kernel_rfl
theorem Zh3 : cQ 194 Zbq = true := by kernel_rfl
theorem Zia : cQ 195 Z78 = true := by kernel_rfl
theorem Zk3 : cQ 196 Zcq = true := by kernel_rfl
theorem Qzz : cQ 197 Z7r = true := by kernel_rfl
theorem Z5p : cQ 198 Zgy = true := by kernel_rfl
theorem Zc1 : cQ 199 Zdj = true := by kernel_rfl
theorem Zcx : cQ 200 Zfp = true := by kernel_rfl
theorem Qx4 : cQ 201 Z5a = true := by kernel_rfl
theorem Zhs : cQ 202 Z7z = true := by kernel_rfl
theorem Z3r : cQ 203 Z67 = true := by kernel_rfl
theorem Zgl : cQ 204 Zfw = true := by kernel_rfl
theorem Zfe : cQ 205 Zcj = true := by kernel_rfl
theorem Zdt : cQ 206 Z69 = true := by kernel_rfl
theorem Zet : cQ 207 Z9s = true := by kernel_rfl
theorem Zim : cQ 208 Zdk = true := by kernel_rfl
theorem Qzc : cQ 209 Z7x = true := by kernel_rfl
theorem Qt6 : cQ 210 Zcb = true := by kernel_rfl
theorem Zha : cQ 211 Zed = true := by kernel_rfl
theorem Zar : cQ 212 Z7k = true := by kernel_rfl
theorem Zeh : cQ 213 Z9m = true := by kernel_rfl
theorem Z5e : cQ 214 Zel = true := by kernel_rfl
theorem Z6n : cQ 215 Z5t = true := by kernel_rfl
theorem Zi9 : cQ 216 Zfd = true := by kernel_rfl
theorem Zbk : cQ 217 Z8i = true := by kernel_rfl
theorem Zcn : cQ 218 Zfx = true := by kernel_rfl
theorem Zjl : cQ 219 Zch = true := by kernel_rfl
theorem Zix : cQ 220 Zdz = true := by kernel_rfl
theorem Ze2 : cQ 221 Z8k = true := by kernel_rfl
theorem Zfi : cQ 222 Z72 = true := by kernel_rfl
theorem Zd3 : cQ 223 Za4 = true := by kernel_rfl
end
end Go.Av
namespace Go.Av
noncomputable section
open Go.Proofs
set_option maxRecDepth 100000
theorem Zcs : cQ 224 Z6i = true := by kernel_rfl
theorem Zcf : cQ 225 Z8z = true := by kernel_rfl
theorem Z9b : cQ 226 Zgp = true := by kernel_rfl
theorem Zho : cQ 227 Zfg = true := by kernel_rfl
theorem Zhx : cQ 228 Zak = true := by kernel_rfl
theorem Zeb : cQ 229 Zax = true := by kernel_rfl
theorem Zk5 : cQ 230 Zai = true := by kernel_rfl
theorem Zhe : cQ 231 Zbj = true := by kernel_rfl
theorem Zjv : cQ 232 Zcw = true := by kernel_rfl
theorem Zdn : cQ 233 Zdi = true := by kernel_rfl
theorem Z7e : cQ 235 Zdq = true := by kernel_rfl
theorem Zae : cQ 236 Zc7 = true := by kernel_rfl
theorem Zh0 : cQ 237 Zbr = true := by kernel_rfl
theorem Zh5 : cQ 238 Zeo = true := by kernel_rfl
theorem Zib : cQ 239 Z5c = true := by kernel_rfl
theorem Zh2 : cQ 240 Zbi = true := by kernel_rfl
theorem Zit : cQ 241 Zd2 = true := by kernel_rfl
theorem Zf9 : cQ 242 Za9 = true := by kernel_rfl
theorem Qo7 : cQ 243 Z9y = true := by kernel_rfl
theorem Zfq : cQ 244 Zg8 = true := by kernel_rfl
theorem Zfk : cQ 245 Zef = true := by kernel_rfl
theorem Zc9 : cQ 246 Zbn = true := by kernel_rfl
theorem Zij : cQ 247 Z5f = true := by kernel_rfl
theorem Zi0 : cQ 248 Zbe = true := by kernel_rfl
theorem Zic : cQ 249 Zfv = true := by kernel_rfl
theorem Z7j : cQ 250 Z8q = true := by kernel_rfl
theorem Zh8 : cQ 251 Zgk = true := by kernel_rfl
theorem Zdg : cQ 252 Za1 = true := by kernel_rfl
theorem Zd5 : cQ 253 Z9u = true := by kernel_rfl
theorem Zbp : cQ 254 Z7g = true := by kernel_rfl
theorem Z95 : cQ 255 Zda = true := by kernel_rfl
theorem Z4d : cQ 256 Z6t = true := by kernel_rfl
theorem Z9c : cQ 257 Zf8 = true := by kernel_rfl
theorem Z3t : cQ 258 Z66 = true := by kernel_rfl
theorem Zeq : cQ 259 Z9v = true := by kernel_rfl
theorem Z4v : cQ 260 Zaw = true := by kernel_rfl
theorem Z5i : cQ 261 Z70 = true := by kernel_rfl
theorem Z4n : cQ 262 Zb4 = true := by kernel_rfl
theorem Zeu : cQ 263 Z9i = true := by kernel_rfl
theorem Ze5 : cQ 264 Z9f = true := by kernel_rfl
theorem Zjd : cQ 265 Zem = true := by kernel_rfl
theorem Zjq : cQ 266 Zce = true := by kernel_rfl
theorem Zi7 : cQ 267 Z6o = true := by kernel_rfl
theorem Qmh : cQ 268 Zgw = true := by kernel_rfl
theorem Zdx : cQ 269 Zah = true := by kernel_rfl
theorem Zau : cQ 270 Zft = true := by kernel_rfl
theorem Zdv : cQ 271 Z9d = true := by kernel_rfl
theorem Z7n : cQ 272 Za5 = true := by kernel_rfl
theorem Z7q : cQ 273 Ze4 = true := by kernel_rfl
theorem Z5w : cQ 274 Z77 = true := by kernel_rfl
theorem Z8x : cQ 275 Z79 = true := by kernel_rfl
theorem Z83 : cQ 276 Zgm = true := by kernel_rfl
theorem Z99 : cQ 277 Z5g = true := by kernel_rfl
theorem Zew : cQ 278 Zab = true := by kernel_rfl
theorem Zf7 : cQ 279 Zee = true := by kernel_rfl
theorem Z8s : cQ 280 Z9z = true := by kernel_rfl
theorem Zc3 : cQ 281 Zek = true := by kernel_rfl
theorem Zgj : cQ 282 Z7u = true := by kernel_rfl
theorem Z71 : cQ 283 Zfa = true := by kernel_rfl
theorem Zjm : cQ 284 Zgf = true := by kernel_rfl
theorem Zct : cQ 285 Zgn = true := by kernel_rfl
theorem Zk4 : cQ 286 Z9x = true := by kernel_rfl
end
end Go.Av
namespace Go.Av
noncomputable section
open Go.Proofs
set_option maxRecDepth 100000
theorem Zhv : cQ 287 Zcl = true := by kernel_rfl
theorem Z8m : cQ 288 Zd0 = true := by kernel_rfl
theorem Ziz : cQ 289 Zd6 = true := by kernel_rfl
theorem Ziu : cQ 290 Z9p = true := by kernel_rfl
theorem Zid : cQ 291 Zfy = true := by kernel_rfl
theorem Zbg : cQ 292 Z9n = true := by kernel_rfl
theorem Z82 : cQ 293 Z6y = true := by kernel_rfl
theorem Zec : cQ 294 Z7h = true := by kernel_rfl
theorem Zde : cQ 295 Zb1 = true := by kernel_rfl
theorem Z9h : cQ 296 Zbh = true := by kernel_rfl
theorem Zbc : cQ 297 Z7a = true := by kernel_rfl
theorem Zjw : cQ 298 Z6a = true := by kernel_rfl
theorem Zk9 : cQ 299 Z5h = true := by kernel_rfl
theorem Zhu : cQ 300 Zb5 = true := by kernel_rfl
theorem Z5u : cQ 301 Za2 = true := by kernel_rfl
theorem Z61 : cQ 302 Zbx = true := by kernel_rfl
theorem Zjf : cQ 303 Z7p = true := by kernel_rfl
theorem Qxr : cQ 304 Zba = true := by kernel_rfl
theorem Z4e : cQ 305 Z9w = true := by kernel_rfl
theorem Zj9 : cQ 306 Z88 = true := by kernel_rfl
theorem Zb7 : cQ 307 Zcc = true := by kernel_rfl
theorem Z9l : cQ 308 Zad = true := by kernel_rfl
theorem Zj2 : cQ 309 Z73 = true := by kernel_rfl
theorem Zio : cQ 310 Ze8 = true := by kernel_rfl
theorem Zk6 : cQ 311 Zg2 = true := by kernel_rfl
theorem Zi2 : cQ 312 Zap = true := by kernel_rfl
theorem Zi6 : cQ 313 Zd4 = true := by kernel_rfl
theorem Zjj : cQ 314 Z58 = true := by kernel_rfl
theorem Zhn : cQ 315 Zdm = true := by kernel_rfl
theorem Ziv : cQ 316 Zgo = true := by kernel_rfl
theorem Zjh : cQ 317 Z87 = true := by kernel_rfl
theorem Zju : cQ 318 Z8b = true := by kernel_rfl
theorem Zjo : cQ 319 Z7w = true := by kernel_rfl
theorem Zji : cQ 320 Z74 = true := by kernel_rfl
theorem Zhd : cQ 321 Zga = true := by kernel_rfl
theorem Zjn : cQ 322 Z6l = true := by kernel_rfl
theorem Z5d : cQ 323 Zfs = true := by kernel_rfl
theorem Z5n : cQ 324 Z65 = true := by kernel_rfl
theorem Ziq : cQ 325 Za3 = true := by kernel_rfl
theorem Zk2 : cQ 326 Zb3 = true := by kernel_rfl
theorem Zh9 : cQ 327 Z6k = true := by kernel_rfl
theorem Zhl : cQ 328 Z6r = true := by kernel_rfl
end
end Go.Av
namespace Go.Av
noncomputable section
open Go.Proofs
set_option maxRecDepth 100000
theorem Zis : cQ 329 Z62 = true := by kernel_rfl
theorem Zii : cQ 330 Z6m = true := by kernel_rfl
theorem Ziw : cQ 331 Zg5 = true := by kernel_rfl
theorem Zbz : cQ 332 Zfl = true := by kernel_rfl
theorem Zer : cQ 333 Zbd = true := by kernel_rfl
theorem Zj8 : cQ 334 Zgb = true := by kernel_rfl
theorem Zir : cQ 335 Zby = true := by kernel_rfl
theorem Zj4 : cQ 336 Z5o = true := by kernel_rfl
theorem Zh1 : cQ 337 Zdr = true := by kernel_rfl
theorem Zjp : cQ 338 Z6v = true := by kernel_rfl
theorem Zin : cQ 339 Zcv = true := by kernel_rfl
theorem Z68 : cQ 342 Zf6 = true := by kernel_rfl
theorem Z59 : cQ 343 Z92 = true := by kernel_rfl
theorem Zht : cQ 344 Z6z = true := by kernel_rfl
theorem Zi1 : cQ 345 Z8g = true := by kernel_rfl
theorem Zhm : cQ 346 Z9o = true := by kernel_rfl
theorem Z7t : cQ 347 Zfo = true := by kernel_rfl
theorem Zbt : cQ 348 Z56 = true := by kernel_rfl
theorem Z6g : cQ 349 Zeg = true := by kernel_rfl
theorem Zhj : cQ 350 Zgv = true := by kernel_rfl
theorem Zj1 : cQ 351 Z6x = true := by kernel_rfl
theorem Z90 : cQ 352 Zf0 = true := by kernel_rfl
theorem Z52 : cQ 353 Z6s = true := by kernel_rfl
theorem Z7o : cQ 354 Z5s = true := by kernel_rfl
theorem Zgx : cQ 355 Z9k = true := by kernel_rfl
theorem Zj0 : cQ 357 Zg0 = true := by kernel_rfl
theorem Zej : cQ 358 Zdc = true := by kernel_rfl
theorem Zjc : cQ 359 Zbm = true := by kernel_rfl
end
end Go.Av

