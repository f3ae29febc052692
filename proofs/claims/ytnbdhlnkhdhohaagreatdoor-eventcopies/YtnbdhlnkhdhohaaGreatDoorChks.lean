/- Part of the proof of EventCopies: for every input the law returns true; no condition. -/
import Derived.Test.YtnbdhlnkhdhohaaGreatDoorCode1
import Derived.Test.YtnbdhlnkhdhohaaGreatDoorAvChk
import Derived.KernelRfl
import Derived.Test.YtnbdhlnkhdhohaaGreatDoorProg
namespace Go.Av
noncomputable section
open Go.Proofs
set_option maxRecDepth 100000
abbrev cQ := Q1d Tryz.prog
theorem k3 : cQ 3 c3 = true := by kernel_rfl
theorem k5 : cQ 5 c5 = true := by kernel_rfl
theorem k6 : cQ 6 c6 = true := by kernel_rfl
theorem k7 : cQ 7 c7 = true := by kernel_rfl
theorem k8 : cQ 8 c8 = true := by kernel_rfl
theorem k9 : cQ 9 c9 = true := by kernel_rfl
theorem k10 : cQ 10 c10 = true := by kernel_rfl
theorem k12 : cQ 12 c12 = true := by kernel_rfl
theorem k13 : cQ 13 c13 = true := by kernel_rfl
theorem k14 : cQ 14 c14 = true := by kernel_rfl
theorem k15 : cQ 15 c15 = true := by kernel_rfl
theorem k16 : cQ 16 c16 = true := by kernel_rfl
theorem k17 : cQ 17 c17 = true := by kernel_rfl
theorem k18 : cQ 18 c18 = true := by kernel_rfl
theorem k19 : cQ 19 c19 = true := by kernel_rfl
theorem k20 : cQ 20 c20 = true := by kernel_rfl
theorem k21 : cQ 21 c21 = true := by kernel_rfl
theorem k22 : cQ 22 c22 = true := by kernel_rfl
theorem k23 : cQ 23 c23 = true := by kernel_rfl
theorem k24 : cQ 24 c24 = true := by kernel_rfl
theorem k25 : cQ 25 c25 = true := by kernel_rfl
theorem k26 : cQ 26 c26 = true := by kernel_rfl
theorem k27 : cQ 27 c27 = true := by kernel_rfl
theorem k28 : cQ 28 c28 = true := by kernel_rfl
theorem k29 : cQ 29 c29 = true := by kernel_rfl
theorem k30 : cQ 30 c30 = true := by kernel_rfl
theorem k31 : cQ 31 c31 = true := by kernel_rfl
theorem k32 : cQ 32 c32 = true := by kernel_rfl
theorem k33 : cQ 33 c33 = true := by kernel_rfl
theorem k34 : cQ 34 c34 = true := by kernel_rfl
theorem k35 : cQ 35 c35 = true := by kernel_rfl
theorem k36 : cQ 36 c36 = true := by kernel_rfl
theorem k37 : cQ 37 c37 = true := by kernel_rfl
theorem k38 : cQ 38 c38 = true := by kernel_rfl
theorem k39 : cQ 39 c39 = true := by kernel_rfl
theorem k40 : cQ 40 c40 = true := by kernel_rfl
theorem k41 : cQ 41 c41 = true := by kernel_rfl
theorem k42 : cQ 42 c42 = true := by kernel_rfl
theorem k43 : cQ 43 c43 = true := by kernel_rfl
theorem k44 : cQ 44 c44 = true := by kernel_rfl
theorem k45 : cQ 45 c45 = true := by kernel_rfl
theorem k46 : cQ 46 c46 = true := by kernel_rfl
theorem k47 : cQ 47 c47 = true := by kernel_rfl
theorem k48 : cQ 48 c48 = true := by kernel_rfl
theorem k49 : cQ 49 c49 = true := by kernel_rfl
theorem k50 : cQ 50 c50 = true := by kernel_rfl
theorem k51 : cQ 51 c51 = true := by kernel_rfl
theorem k52 : cQ 52 c52 = true := by kernel_rfl
theorem k53 : cQ 53 c53 = true := by kernel_rfl
theorem k54 : cQ 54 c54 = true := by kernel_rfl
theorem k55 : cQ 55 c55 = true := by kernel_rfl
end
end Go.Av
namespace Go.Av
noncomputable section
open Go.Proofs
set_option maxRecDepth 100000
theorem k56 : cQ 56 c56 = true := by kernel_rfl
theorem k57 : cQ 57 c57 = true := by kernel_rfl
theorem k58 : cQ 58 c58 = true := by kernel_rfl
theorem k59 : cQ 59 c59 = true := by kernel_rfl
theorem k60 : cQ 60 c60 = true := by kernel_rfl
theorem k61 : cQ 61 c61 = true := by kernel_rfl
theorem k62 : cQ 62 c62 = true := by kernel_rfl
theorem k63 : cQ 63 c63 = true := by kernel_rfl
theorem k64 : cQ 64 c64 = true := by kernel_rfl
theorem k65 : cQ 65 c65 = true := by kernel_rfl
theorem k66 : cQ 66 c66 = true := by kernel_rfl
theorem k67 : cQ 67 c67 = true := by kernel_rfl
theorem k68 : cQ 68 c68 = true := by kernel_rfl
theorem k69 : cQ 69 c69 = true := by kernel_rfl
theorem k70 : cQ 70 c70 = true := by kernel_rfl
theorem k71 : cQ 71 c71 = true := by kernel_rfl
theorem k72 : cQ 72 c72 = true := by kernel_rfl
theorem k73 : cQ 73 c73 = true := by kernel_rfl
theorem k74 : cQ 74 c74 = true := by kernel_rfl
theorem k75 : cQ 75 c75 = true := by kernel_rfl
theorem k76 : cQ 76 c76 = true := by kernel_rfl
theorem k77 : cQ 77 c77 = true := by kernel_rfl
theorem k78 : cQ 78 c78 = true := by kernel_rfl
theorem k79 : cQ 79 c79 = true := by kernel_rfl
theorem k80 : cQ 80 c80 = true := by kernel_rfl
theorem k81 : cQ 81 c81 = true := by kernel_rfl
theorem k82 : cQ 82 c82 = true := by kernel_rfl
theorem k83 : cQ 83 c83 = true := by kernel_rfl
theorem k84 : cQ 84 c84 = true := by kernel_rfl
theorem k85 : cQ 85 c85 = true := by kernel_rfl
theorem k86 : cQ 86 c86 = true := by kernel_rfl
theorem k87 : cQ 87 c87 = true := by kernel_rfl
theorem k88 : cQ 88 c88 = true := by kernel_rfl
theorem k89 : cQ 89 c89 = true := by kernel_rfl
theorem k90 : cQ 90 c90 = true := by kernel_rfl
theorem k91 : cQ 91 c91 = true := by kernel_rfl
theorem k92 : cQ 92 c92 = true := by kernel_rfl
theorem k93 : cQ 93 c93 = true := by kernel_rfl
theorem k94 : cQ 94 c94 = true := by kernel_rfl
theorem k95 : cQ 95 c95 = true := by kernel_rfl
theorem k96 : cQ 96 c96 = true := by kernel_rfl
theorem k97 : cQ 97 c97 = true := by kernel_rfl
theorem k98 : cQ 98 c98 = true := by kernel_rfl
theorem k99 : cQ 99 c99 = true := by kernel_rfl
theorem Zh2 : cQ 100 Ze8 = true := by kernel_rfl
theorem Zae : cQ 101 Zgx = true := by kernel_rfl
end
end Go.Av
namespace Go.Av
noncomputable section
open Go.Proofs
set_option maxRecDepth 100000
theorem Z9c : cQ 102 Z8y = true := by kernel_rfl
theorem Zbg : cQ 103 Za5 = true := by kernel_rfl
theorem Z7y : cQ 104 Zg5 = true := by kernel_rfl
theorem Zeq : cQ 105 Z9v = true := by kernel_rfl
theorem Zgl : cQ 106 Zfa = true := by kernel_rfl
theorem Zje : cQ 107 Zgg = true := by kernel_rfl
theorem Ziz : cQ 108 Z6l = true := by kernel_rfl
theorem Zjo : cQ 109 Zc4 = true := by kernel_rfl
theorem Zjv : cQ 110 Zfk = true := by kernel_rfl
theorem Zb8 : cQ 111 Zeo = true := by kernel_rfl
theorem Zcb : cQ 112 Z66 = true := by kernel_rfl
theorem Zg7 : cQ 113 Zez = true := by kernel_rfl
theorem Zek : cQ 114 Zh4 = true := by kernel_rfl
theorem Zee : cQ 115 Zdy = true := by kernel_rfl
theorem Zbr : cQ 116 Zfp = true := by kernel_rfl
theorem Zdv : cQ 117 Zeg = true := by kernel_rfl
theorem Z6o : cQ 118 Z7k = true := by kernel_rfl
theorem Zcq : cQ 119 Zfv = true := by kernel_rfl
theorem Zcg : cQ 120 Z81 = true := by kernel_rfl
theorem Zau : cQ 121 Zch = true := by kernel_rfl
theorem Zfy : cQ 122 Z6t = true := by kernel_rfl
theorem Zk9 : cQ 123 Z5i = true := by kernel_rfl
theorem Z6a : cQ 124 Z5f = true := by kernel_rfl
theorem Zie : cQ 125 Z8d = true := by kernel_rfl
theorem Zfn : cQ 126 Zgj = true := by kernel_rfl
theorem Zik : cQ 127 Zbo = true := by kernel_rfl
theorem Zc8 : cQ 128 Z9g = true := by kernel_rfl
theorem Zix : cQ 129 Zd6 = true := by kernel_rfl
theorem Zax : cQ 130 Zav = true := by kernel_rfl
theorem Zh6 : cQ 131 Z94 = true := by kernel_rfl
theorem Zd2 : cQ 132 Zh1 = true := by kernel_rfl
theorem Zdi : cQ 133 Zep = true := by kernel_rfl
theorem Zci : cQ 134 Z7d = true := by kernel_rfl
theorem Z7c : cQ 135 Zbe = true := by kernel_rfl
theorem Z6f : cQ 136 Zbh = true := by kernel_rfl
theorem Z83 : cQ 137 Zen = true := by kernel_rfl
end
end Go.Av
namespace Go.Av
noncomputable section
open Go.Proofs
set_option maxRecDepth 100000
theorem Z7r : cQ 138 Z9u = true := by kernel_rfl
theorem Zgv : cQ 139 Zbb = true := by kernel_rfl
theorem Zf6 : cQ 140 Zgp = true := by kernel_rfl
theorem Z7s : cQ 141 Z6g = true := by kernel_rfl
theorem Zfx : cQ 142 Zg1 = true := by kernel_rfl
theorem Zca : cQ 143 Zda = true := by kernel_rfl
theorem Z9k : cQ 144 Zd7 = true := by kernel_rfl
theorem Zcl : cQ 145 Zap = true := by kernel_rfl
theorem Zjq : cQ 146 Zfu = true := by kernel_rfl
theorem Zho : cQ 147 Zab = true := by kernel_rfl
theorem Zj9 : cQ 148 Za9 = true := by kernel_rfl
theorem Zi6 : cQ 149 Zes = true := by kernel_rfl
theorem Zi2 : cQ 150 Zf1 = true := by kernel_rfl
theorem Z6u : cQ 151 Zao = true := by kernel_rfl
theorem Zfs : cQ 152 Z63 = true := by kernel_rfl
theorem Z6e : cQ 153 Zgf = true := by kernel_rfl
theorem Zj4 : cQ 154 Z8o = true := by kernel_rfl
theorem Zar : cQ 156 Z5v = true := by kernel_rfl
theorem Zaq : cQ 157 Z96 = true := by kernel_rfl
theorem Zi4 : cQ 158 Zea = true := by kernel_rfl
theorem Zdq : cQ 159 Z9h = true := by kernel_rfl
theorem Zjl : cQ 160 Z8h = true := by kernel_rfl
theorem Zcr : cQ 161 Zcy = true := by kernel_rfl
theorem Zjn : cQ 162 Zdp = true := by kernel_rfl
theorem Z7t : cQ 163 Z8r = true := by kernel_rfl
theorem Zjf : cQ 164 Z5x = true := by kernel_rfl
theorem Ze2 : cQ 165 Zeb = true := by kernel_rfl
theorem Zhj : cQ 166 Zh3 = true := by kernel_rfl
theorem Zaf : cQ 167 Zfr = true := by kernel_rfl
theorem Z8v : cQ 168 Zgs = true := by kernel_rfl
theorem Z8w : cQ 169 Z6c = true := by kernel_rfl
theorem Z68 : cQ 170 Zf7 = true := by kernel_rfl
theorem Zfw : cQ 171 Zh5 = true := by kernel_rfl
theorem Z7a : cQ 172 Zbu = true := by kernel_rfl
theorem Z9x : cQ 173 Zdr = true := by kernel_rfl
theorem Zgm : cQ 174 Zf2 = true := by kernel_rfl
theorem Za0 : cQ 175 Zbv = true := by kernel_rfl
theorem Z5p : cQ 176 Za2 = true := by kernel_rfl
end
end Go.Av
namespace Go.Av
noncomputable section
open Go.Proofs
set_option maxRecDepth 100000
theorem Zgk : cQ 177 Z5b = true := by kernel_rfl
theorem Z91 : cQ 178 Z9m = true := by kernel_rfl
theorem Zio : cQ 179 Zbx = true := by kernel_rfl
theorem Z9l : cQ 180 Zer = true := by kernel_rfl
theorem Zgo : cQ 181 Zdw = true := by kernel_rfl
theorem Zgt : cQ 182 Zcx = true := by kernel_rfl
theorem Ziv : cQ 183 Zcf = true := by kernel_rfl
theorem Zjc : cQ 184 Zbf = true := by kernel_rfl
theorem Z98 : cQ 185 Z6m = true := by kernel_rfl
theorem Zah : cQ 186 Ze5 = true := by kernel_rfl
theorem Z9s : cQ 187 Z88 = true := by kernel_rfl
theorem Z60 : cQ 188 Z5j = true := by kernel_rfl
theorem Z5z : cQ 189 Z64 = true := by kernel_rfl
theorem Ze0 : cQ 190 Z6v = true := by kernel_rfl
theorem Z6z : cQ 191 Z5q = true := by kernel_rfl
theorem Z82 : cQ 192 Zg0 = true := by kernel_rfl
theorem Zk6 : cQ 193 Zf8 = true := by kernel_rfl
theorem Zkd : cQ 194 Z9n = true := by kernel_rfl
theorem Zjx : cQ 195 Zcz = true := by kernel_rfl
theorem Zj6 : cQ 196 Zdm = true := by kernel_rfl
theorem Qzv : cQ 197 Z6y = true := by kernel_rfl
theorem Z6s : cQ 198 Z9i = true := by kernel_rfl
theorem Z5h : cQ 199 Zbp = true := by kernel_rfl
theorem Zbd : cQ 200 Zdn = true := by kernel_rfl
theorem Qxx : cQ 201 Zd9 = true := by kernel_rfl
theorem Ziw : cQ 202 Zeu = true := by kernel_rfl
theorem Z3r : cQ 203 Zg6 = true := by kernel_rfl
theorem Zdo : cQ 204 Zh0 = true := by kernel_rfl
theorem Z6r : cQ 205 Zgd = true := by kernel_rfl
theorem Zdk : cQ 206 Zdl = true := by kernel_rfl
theorem Z7n : cQ 207 Zb5 = true := by kernel_rfl
theorem Zh8 : cQ 208 Zfm = true := by kernel_rfl
theorem Qzm : cQ 209 Zfl = true := by kernel_rfl
theorem Qvf : cQ 210 Zdb = true := by kernel_rfl
theorem Zk4 : cQ 211 Zds = true := by kernel_rfl
theorem Zag : cQ 212 Zc0 = true := by kernel_rfl
theorem Zfg : cQ 213 Z9d = true := by kernel_rfl
theorem Z9p : cQ 214 Zfq = true := by kernel_rfl
theorem Zgn : cQ 215 Za6 = true := by kernel_rfl
theorem Zjg : cQ 216 Z99 = true := by kernel_rfl
theorem Z8m : cQ 217 Zd5 = true := by kernel_rfl
theorem Z6w : cQ 218 Z9j = true := by kernel_rfl
theorem Zjp : cQ 219 Zga = true := by kernel_rfl
theorem Zh7 : cQ 220 Z5u = true := by kernel_rfl
theorem Z6j : cQ 221 Zgh = true := by kernel_rfl
theorem Z5l : cQ 222 Zbq = true := by kernel_rfl
theorem Z5c : cQ 223 Z6n = true := by kernel_rfl
end
end Go.Av
namespace Go.Av
noncomputable section
open Go.Proofs
set_option maxRecDepth 100000
theorem Zdu : cQ 224 Z5e = true := by kernel_rfl
theorem Z80 : cQ 225 Zct = true := by kernel_rfl
theorem Zbn : cQ 226 Zcp = true := by kernel_rfl
theorem Zi9 : cQ 227 Z6h = true := by kernel_rfl
theorem Zia : cQ 228 Zg2 = true := by kernel_rfl
theorem Zcw : cQ 229 Zev = true := by kernel_rfl
theorem Zhk : cQ 230 Z65 = true := by kernel_rfl
theorem Zja : cQ 231 Zfz = true := by kernel_rfl
theorem Zjw : cQ 232 Z7b = true := by kernel_rfl
theorem Zcs : cQ 233 Za7 = true := by kernel_rfl
theorem Zg8 : cQ 235 Zc5 = true := by kernel_rfl
theorem Zge : cQ 236 Zan = true := by kernel_rfl
theorem Zii : cQ 237 Z71 = true := by kernel_rfl
theorem Zji : cQ 238 Zgb = true := by kernel_rfl
theorem Zhq : cQ 239 Z5s = true := by kernel_rfl
theorem Zhx : cQ 240 Z9a = true := by kernel_rfl
theorem Zka : cQ 241 Zbk = true := by kernel_rfl
theorem Z5d : cQ 242 Za3 = true := by kernel_rfl
theorem Qq3 : cQ 243 Z9z = true := by kernel_rfl
theorem Zc7 : cQ 244 Zc6 = true := by kernel_rfl
theorem Z8f : cQ 245 Zfe = true := by kernel_rfl
theorem Z8b : cQ 246 Ze7 = true := by kernel_rfl
theorem Zir : cQ 247 Z72 = true := by kernel_rfl
theorem Zkc : cQ 248 Zas = true := by kernel_rfl
theorem Zjt : cQ 249 Z62 = true := by kernel_rfl
theorem Z5k : cQ 250 Zdc = true := by kernel_rfl
theorem Zic : cQ 251 Z8p = true := by kernel_rfl
theorem Zaw : cQ 252 Zad = true := by kernel_rfl
theorem Zai : cQ 253 Zbl = true := by kernel_rfl
theorem Zg3 : cQ 254 Z5o = true := by kernel_rfl
theorem Z69 : cQ 255 Z7f = true := by kernel_rfl
theorem Z51 : cQ 256 Z89 = true := by kernel_rfl
theorem Zco : cQ 257 Z61 = true := by kernel_rfl
theorem Z4m : cQ 258 Zb6 = true := by kernel_rfl
theorem Zeh : cQ 259 Zfb = true := by kernel_rfl
theorem Z4l : cQ 260 Zdt = true := by kernel_rfl
theorem Za8 : cQ 261 Z70 = true := by kernel_rfl
theorem Z47 : cQ 262 Z6i = true := by kernel_rfl
theorem Zcn : cQ 263 Z78 = true := by kernel_rfl
theorem Zf4 : cQ 264 Zd4 = true := by kernel_rfl
theorem Zj0 : cQ 265 Zf9 = true := by kernel_rfl
theorem Zjz : cQ 266 Ze6 = true := by kernel_rfl
theorem Zim : cQ 267 Z92 = true := by kernel_rfl
theorem Qmd : cQ 268 Zgw = true := by kernel_rfl
theorem Zf3 : cQ 269 Zel = true := by kernel_rfl
theorem Zfh : cQ 270 Z5g = true := by kernel_rfl
theorem Zaj : cQ 271 Zgr = true := by kernel_rfl
theorem Zac : cQ 272 Zft = true := by kernel_rfl
theorem Z8q : cQ 273 Zgz = true := by kernel_rfl
theorem Z86 : cQ 274 Zgu = true := by kernel_rfl
theorem Zat : cQ 275 Z8j = true := by kernel_rfl
theorem Z7j : cQ 276 Z8e = true := by kernel_rfl
theorem Zg9 : cQ 277 Z95 = true := by kernel_rfl
theorem Zdh : cQ 278 Zbi = true := by kernel_rfl
theorem Z6k : cQ 279 Z9o = true := by kernel_rfl
theorem Z5n : cQ 280 Zcd = true := by kernel_rfl
theorem Z6x : cQ 281 Z9f = true := by kernel_rfl
theorem Z7w : cQ 282 Z7i = true := by kernel_rfl
theorem Zei : cQ 283 Z77 = true := by kernel_rfl
theorem Zi5 : cQ 284 Zbs = true := by kernel_rfl
theorem Zgy : cQ 285 Z5t = true := by kernel_rfl
theorem Zhv : cQ 286 Zgi = true := by kernel_rfl
end
end Go.Av
namespace Go.Av
noncomputable section
open Go.Proofs
set_option maxRecDepth 100000
theorem Zjk : cQ 287 Zew = true := by kernel_rfl
theorem Zcu : cQ 288 Z9b = true := by kernel_rfl
theorem Zhl : cQ 289 Z8i = true := by kernel_rfl
theorem Zhy : cQ 290 Zb9 = true := by kernel_rfl
theorem Zke : cQ 291 Zc1 = true := by kernel_rfl
theorem Zay : cQ 292 Z7v = true := by kernel_rfl
theorem Z7z : cQ 293 Z67 = true := by kernel_rfl
theorem Zbj : cQ 294 Z85 = true := by kernel_rfl
theorem Z87 : cQ 295 Z5y = true := by kernel_rfl
theorem Z8k : cQ 296 Z5r = true := by kernel_rfl
theorem Zc2 : cQ 297 Zd8 = true := by kernel_rfl
theorem Zhr : cQ 298 Z8g = true := by kernel_rfl
theorem Ziu : cQ 299 Zce = true := by kernel_rfl
theorem Zh9 : cQ 300 Z9q = true := by kernel_rfl
theorem Z8u : cQ 301 Z8x = true := by kernel_rfl
theorem Zet : cQ 302 Z73 = true := by kernel_rfl
theorem Zhd : cQ 303 Z7l = true := by kernel_rfl
theorem Qw7 : cQ 304 Zaa = true := by kernel_rfl
theorem Z4e : cQ 305 Z84 = true := by kernel_rfl
theorem Zht : cQ 306 Zfj = true := by kernel_rfl
theorem Z6p : cQ 307 Z9t = true := by kernel_rfl
theorem Zcj : cQ 308 Zbw = true := by kernel_rfl
theorem Zi8 : cQ 309 Z7h = true := by kernel_rfl
theorem Zk5 : cQ 310 Zed = true := by kernel_rfl
theorem Zjd : cQ 311 Z7u = true := by kernel_rfl
theorem Zjr : cQ 312 Zfd = true := by kernel_rfl
theorem Zj5 : cQ 313 Zcc = true := by kernel_rfl
theorem Zil : cQ 314 Z7q = true := by kernel_rfl
theorem Zjy : cQ 315 Z79 = true := by kernel_rfl
theorem Zib : cQ 316 Z74 = true := by kernel_rfl
theorem Ziq : cQ 317 Zb1 = true := by kernel_rfl
theorem Zj8 : cQ 318 Z6b = true := by kernel_rfl
theorem Zhw : cQ 319 Z8n = true := by kernel_rfl
theorem Zhn : cQ 320 Zej = true := by kernel_rfl
theorem Zjb : cQ 321 Z90 = true := by kernel_rfl
theorem Zjs : cQ 322 Z8a = true := by kernel_rfl
theorem Z8s : cQ 323 Z7o = true := by kernel_rfl
theorem Zg4 : cQ 324 Zdd = true := by kernel_rfl
theorem Zk2 : cQ 325 Z93 = true := by kernel_rfl
theorem Zha : cQ 326 Zam = true := by kernel_rfl
theorem Zk1 : cQ 327 Zd0 = true := by kernel_rfl
theorem Zhb : cQ 328 Za1 = true := by kernel_rfl
end
end Go.Av
namespace Go.Av
noncomputable section
open Go.Proofs
set_option maxRecDepth 100000
theorem Zi0 : cQ 329 Z8l = true := by kernel_rfl
theorem Zhi : cQ 330 Ze1 = true := by kernel_rfl
theorem Zhg : cQ 331 Z5w = true := by kernel_rfl
theorem Zef : cQ 332 Ze4 = true := by kernel_rfl
theorem Zb4 : cQ 333 Zbc = true := by kernel_rfl
theorem Zif : cQ 334 Zd3 = true := by kernel_rfl
theorem Zj2 : cQ 335 Zf0 = true := by kernel_rfl
theorem Zhz : cQ 336 Zc3 = true := by kernel_rfl
theorem Zi1 : cQ 337 Z5a = true := by kernel_rfl
theorem Zk0 : cQ 338 Z76 = true := by kernel_rfl
theorem Zj7 : cQ 339 Zal = true := by kernel_rfl
theorem Zb2 : cQ 342 Z9w = true := by kernel_rfl
theorem Z97 : cQ 343 Zex = true := by kernel_rfl
theorem Zid : cQ 344 Zem = true := by kernel_rfl
theorem Zjj : cQ 345 Zb7 = true := by kernel_rfl
theorem Zk3 : cQ 346 Zby = true := by kernel_rfl
theorem Z9r : cQ 347 Z75 = true := by kernel_rfl
theorem Zfc : cQ 348 Zbz = true := by kernel_rfl
theorem Zdg : cQ 349 Zd1 = true := by kernel_rfl
theorem Zkb : cQ 350 Z9e = true := by kernel_rfl
theorem Zhf : cQ 351 Z6q = true := by kernel_rfl
theorem Zak : cQ 352 Zdf = true := by kernel_rfl
theorem Z4g : cQ 353 Zaz = true := by kernel_rfl
theorem Z8t : cQ 354 Zfi = true := by kernel_rfl
theorem Zfo : cQ 355 Zgc = true := by kernel_rfl
theorem Zij : cQ 357 Ze9 = true := by kernel_rfl
theorem Ze3 : cQ 358 Z7p = true := by kernel_rfl
theorem Zhp : cQ 359 Zbm = true := by kernel_rfl
end
end Go.Av

