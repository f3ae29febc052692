/- Part of the proof of FrommqttBack: for every input the law returns true; no condition. -/
import Derived.Test.YteblaejaahpnaaaGreatDoorCode1
import Derived.Test.YteblaejaahpnaaaGreatDoorAvChk
import Derived.KernelRfl
import Derived.Test.YteblaejaahpnaaaGreatDoorProg
set_option linter.all false
namespace Go.Av
noncomputable section
open Go.Proofs
set_option maxRecDepth 100000
abbrev cQ:=Q6k Tryz.prog
theorem k3:cQ 3 c3=true:=by kernel_rfl
theorem k5:cQ 5 c5=true:=by kernel_rfl
theorem k6:cQ 6 c6=true:=by kernel_rfl
theorem k7:cQ 7 c7=true:=by kernel_rfl
theorem k8:cQ 8 c8=true:=by kernel_rfl
theorem k9:cQ 9 c9=true:=by kernel_rfl
theorem k10:cQ 10 c10=true:=by kernel_rfl
theorem k11:cQ 11 c11=true:=by kernel_rfl
theorem k12:cQ 12 c12=true:=by kernel_rfl
theorem k13:cQ 13 c13=true:=by kernel_rfl
theorem k14:cQ 14 c14=true:=by kernel_rfl
theorem k15:cQ 15 c15=true:=by kernel_rfl
theorem k16:cQ 16 c16=true:=by kernel_rfl
theorem k18:cQ 18 c18=true:=by kernel_rfl
theorem k19:cQ 19 c19=true:=by kernel_rfl
theorem k20:cQ 20 c20=true:=by kernel_rfl
theorem k21:cQ 21 c21=true:=by kernel_rfl
theorem k22:cQ 22 c22=true:=by kernel_rfl
theorem k23:cQ 23 c23=true:=by kernel_rfl
theorem k24:cQ 24 c24=true:=by kernel_rfl
theorem k25:cQ 25 c25=true:=by kernel_rfl
theorem k26:cQ 26 c26=true:=by kernel_rfl
theorem k27:cQ 27 c27=true:=by kernel_rfl
theorem k28:cQ 28 c28=true:=by kernel_rfl
theorem k29:cQ 29 c29=true:=by kernel_rfl
theorem k30:cQ 30 c30=true:=by kernel_rfl
theorem k31:cQ 31 c31=true:=by kernel_rfl
theorem k32:cQ 32 c32=true:=by kernel_rfl
theorem k33:cQ 33 c33=true:=by kernel_rfl
theorem k34:cQ 34 c34=true:=by kernel_rfl
theorem k35:cQ 35 c35=true:=by kernel_rfl
theorem k36:cQ 36 c36=true:=by kernel_rfl
theorem k37:cQ 37 c37=true:=by kernel_rfl
theorem k38:cQ 38 c38=true:=by kernel_rfl
end
end Go.Av
namespace Go.Av
noncomputable section
open Go.Proofs
set_option maxRecDepth 100000
theorem k39:cQ 39 c39=true:=by kernel_rfl
theorem k40:cQ 40 c40=true:=by kernel_rfl
theorem k41:cQ 41 c41=true:=by kernel_rfl
theorem k42:cQ 42 c42=true:=by kernel_rfl
theorem k43:cQ 43 c43=true:=by kernel_rfl
theorem k44:cQ 44 c44=true:=by kernel_rfl
theorem k47:cQ 47 c47=true:=by kernel_rfl
theorem k48:cQ 48 c48=true:=by kernel_rfl
theorem k49:cQ 49 c49=true:=by kernel_rfl
theorem k50:cQ 50 c50=true:=by kernel_rfl
theorem k51:cQ 51 c51=true:=by kernel_rfl
theorem k52:cQ 52 c52=true:=by kernel_rfl
theorem k53:cQ 53 c53=true:=by kernel_rfl
theorem k54:cQ 54 c54=true:=by kernel_rfl
theorem k55:cQ 55 c55=true:=by kernel_rfl
theorem k56:cQ 56 c56=true:=by kernel_rfl
theorem k57:cQ 57 c57=true:=by kernel_rfl
theorem k58:cQ 58 c58=true:=by kernel_rfl
theorem k59:cQ 59 c59=true:=by kernel_rfl
theorem k60:cQ 60 c60=true:=by kernel_rfl
theorem k61:cQ 61 c61=true:=by kernel_rfl
theorem k62:cQ 62 c62=true:=by kernel_rfl
theorem k63:cQ 63 c63=true:=by kernel_rfl
theorem k64:cQ 64 c64=true:=by kernel_rfl
theorem k65:cQ 65 c65=true:=by kernel_rfl
theorem k66:cQ 66 c66=true:=by kernel_rfl
theorem k67:cQ 67 c67=true:=by kernel_rfl
theorem k68:cQ 68 c68=true:=by kernel_rfl
theorem k69:cQ 69 c69=true:=by kernel_rfl
theorem k70:cQ 70 c70=true:=by kernel_rfl
theorem k71:cQ 71 c71=true:=by kernel_rfl
theorem k72:cQ 72 c72=true:=by kernel_rfl
theorem k73:cQ 73 c73=true:=by kernel_rfl
theorem k74:cQ 74 c74=true:=by kernel_rfl
theorem k81:cQ 81 c81=true:=by kernel_rfl
theorem k82:cQ 82 c82=true:=by kernel_rfl
theorem k83:cQ 83 c83=true:=by kernel_rfl
theorem k84:cQ 84 c84=true:=by kernel_rfl
theorem k85:cQ 85 c85=true:=by kernel_rfl
end
end Go.Av
namespace Go.Av
noncomputable section
open Go.Proofs
set_option maxRecDepth 100000
theorem k86:cQ 86 c86=true:=by kernel_rfl
theorem k87:cQ 87 c87=true:=by kernel_rfl
theorem k88:cQ 88 c88=true:=by kernel_rfl
theorem k89:cQ 89 c89=true:=by kernel_rfl
theorem k90:cQ 90 c90=true:=by kernel_rfl
theorem k91:cQ 91 c91=true:=by kernel_rfl
theorem k92:cQ 92 c92=true:=by kernel_rfl
theorem k93:cQ 93 c93=true:=by kernel_rfl
theorem k94:cQ 94 c94=true:=by kernel_rfl
theorem k95:cQ 95 c95=true:=by kernel_rfl
theorem k96:cQ 96 c96=true:=by kernel_rfl
theorem k97:cQ 97 c97=true:=by kernel_rfl
theorem k98:cQ 98 c98=true:=by kernel_rfl
theorem k99:cQ 99 c99=true:=by kernel_rfl
theorem Zeo:cQ 100 Zbl=true:=by kernel_rfl
theorem Zbp:cQ 101 Zie=true:=by kernel_rfl
theorem Zd0:cQ 102 Zav=true:=by kernel_rfl
theorem Zjg:cQ 103 Zkm=true:=by kernel_rfl
theorem Zm7:cQ 104 Zmf=true:=by kernel_rfl
theorem Zr3:cQ 105 Zbd=true:=by kernel_rfl
theorem Zcy:cQ 106 Ze4=true:=by kernel_rfl
theorem Zek:cQ 107 Zkz=true:=by kernel_rfl
theorem Zpy:cQ 108 Zel=true:=by kernel_rfl
theorem Zmd:cQ 109 Z9y=true:=by kernel_rfl
theorem Z9l:cQ 110 Zbn=true:=by kernel_rfl
theorem Zgk:cQ 111 Zbt=true:=by kernel_rfl
theorem Zl3:cQ 112 Zg5=true:=by kernel_rfl
theorem Zt7:cQ 113 Zcq=true:=by kernel_rfl
theorem Zf7:cQ 114 Zcn=true:=by kernel_rfl
theorem Zt9:cQ 115 Zfi=true:=by kernel_rfl
theorem Zud:cQ 116 Zd7=true:=by kernel_rfl
theorem Zol:cQ 117 Zbr=true:=by kernel_rfl
theorem Zot:cQ 118 Zaz=true:=by kernel_rfl
theorem Ztj:cQ 119 Zfo=true:=by kernel_rfl
theorem Zwv:cQ 120 Zax=true:=by kernel_rfl
theorem Zfz:cQ 121 Zk3=true:=by kernel_rfl
theorem Zoh:cQ 122 Zle=true:=by kernel_rfl
theorem Zc9:cQ 123 Zcb=true:=by kernel_rfl
theorem Zmq:cQ 124 Zpn=true:=by kernel_rfl
theorem Zu1:cQ 125 Zi6=true:=by kernel_rfl
theorem Zxa:cQ 126 Zai=true:=by kernel_rfl
theorem Zq9:cQ 127 Zks=true:=by kernel_rfl
theorem Zrt:cQ 128 Zjo=true:=by kernel_rfl
theorem Zws:cQ 129 Zmp=true:=by kernel_rfl
theorem Zr2:cQ 130 Zlm=true:=by kernel_rfl
theorem Zlj:cQ 131 Zkr=true:=by kernel_rfl
theorem Znq:cQ 132 Zkp=true:=by kernel_rfl
theorem Zas:cQ 133 Zbq=true:=by kernel_rfl
theorem Zo9:cQ 134 Ziw=true:=by kernel_rfl
theorem Zlr:cQ 135 Zo6=true:=by kernel_rfl
theorem Zkj:cQ 136 Zaq=true:=by kernel_rfl
end
end Go.Av
namespace Go.Av
noncomputable section
open Go.Proofs
set_option maxRecDepth 100000
theorem Zil:cQ 137 Zc6=true:=by kernel_rfl
theorem Zh9:cQ 138 Zhz=true:=by kernel_rfl
theorem Zkl:cQ 149 Zlv=true:=by kernel_rfl
theorem Zdv:cQ 150 Zm5=true:=by kernel_rfl
theorem Zn1:cQ 152 Zfk=true:=by kernel_rfl
theorem Zgy:cQ 153 Zdl=true:=by kernel_rfl
theorem Zg2:cQ 154 Zd6=true:=by kernel_rfl
theorem Zde:cQ 155 Zcj=true:=by kernel_rfl
theorem Z9n:cQ 156 Zg7=true:=by kernel_rfl
theorem Zeb:cQ 157 Zb8=true:=by kernel_rfl
theorem Zcm:cQ 158 Zgc=true:=by kernel_rfl
theorem Zac:cQ 159 Znj=true:=by kernel_rfl
theorem Zmk:cQ 160 Znx=true:=by kernel_rfl
theorem Zat:cQ 161 Zhw=true:=by kernel_rfl
theorem Zeq:cQ 162 Zct=true:=by kernel_rfl
theorem Zer:cQ 163 Zkd=true:=by kernel_rfl
theorem Zgu:cQ 164 Zlp=true:=by kernel_rfl
theorem Zb9:cQ 165 Zgh=true:=by kernel_rfl
theorem Zp6:cQ 166 Zi0=true:=by kernel_rfl
theorem Ziu:cQ 167 Ze1=true:=by kernel_rfl
theorem Zjl:cQ 168 Zbi=true:=by kernel_rfl
theorem Zpj:cQ 169 Zhq=true:=by kernel_rfl
theorem Zi8:cQ 170 Zgi=true:=by kernel_rfl
theorem Zw2:cQ 171 Zhy=true:=by kernel_rfl
theorem Zim:cQ 172 Z9t=true:=by kernel_rfl
theorem Zqa:cQ 173 Zbj=true:=by kernel_rfl
theorem Zeg:cQ 174 Zkq=true:=by kernel_rfl
theorem Zuu:cQ 175 Zoo=true:=by kernel_rfl
theorem Zmu:cQ 176 Zpr=true:=by kernel_rfl
theorem Zr4:cQ 177 Zgq=true:=by kernel_rfl
theorem Zms:cQ 178 Zln=true:=by kernel_rfl
theorem Zql:cQ 179 Zq1=true:=by kernel_rfl
theorem Zvo:cQ 180 Zem=true:=by kernel_rfl
theorem Zo1:cQ 181 Zk2=true:=by kernel_rfl
theorem Zo2:cQ 182 Znf=true:=by kernel_rfl
theorem Zx6:cQ 183 Zlc=true:=by kernel_rfl
theorem Zsd:cQ 184 Zj8=true:=by kernel_rfl
theorem Zcz:cQ 185 Zkk=true:=by kernel_rfl
theorem Zjc:cQ 186 Zp3=true:=by kernel_rfl
theorem Zcg:cQ 187 Ze8=true:=by kernel_rfl
theorem Z9d:cQ 188 Zgj=true:=by kernel_rfl
theorem Zsg:cQ 189 Zh0=true:=by kernel_rfl
theorem Zih:cQ 190 Zj1=true:=by kernel_rfl
theorem Zx2:cQ 191 Zmv=true:=by kernel_rfl
theorem Zrv:cQ 192 Zdf=true:=by kernel_rfl
theorem Zt5:cQ 193 Zez=true:=by kernel_rfl
theorem Zug:cQ 194 Zq3=true:=by kernel_rfl
theorem Zua:cQ 195 Zdy=true:=by kernel_rfl
theorem Zpq:cQ 196 Zeu=true:=by kernel_rfl
theorem Zra:cQ 197 Zfq=true:=by kernel_rfl
theorem Zoq:cQ 198 Zf3=true:=by kernel_rfl
theorem Zkv:cQ 199 Ze0=true:=by kernel_rfl
theorem Z9w:cQ 200 Zcp=true:=by kernel_rfl
end
end Go.Av
namespace Go.Av
noncomputable section
open Go.Proofs
set_option maxRecDepth 100000
theorem Zcx:cQ 201 Zco=true:=by kernel_rfl
theorem Zff:cQ 202 Zny=true:=by kernel_rfl
theorem Zqi:cQ 203 Zk5=true:=by kernel_rfl
theorem Zve:cQ 204 Z9q=true:=by kernel_rfl
theorem Ztb:cQ 205 Zfm=true:=by kernel_rfl
theorem Zum:cQ 206 Za3=true:=by kernel_rfl
theorem Zsj:cQ 207 Z9g=true:=by kernel_rfl
theorem Zqr:cQ 208 Zdc=true:=by kernel_rfl
theorem Zrn:cQ 209 Z9m=true:=by kernel_rfl
theorem Zrl:cQ 210 Ziy=true:=by kernel_rfl
theorem Zwo:cQ 211 Zja=true:=by kernel_rfl
theorem Zup:cQ 212 Zfa=true:=by kernel_rfl
theorem Ztw:cQ 213 Zkn=true:=by kernel_rfl
theorem Zwu:cQ 214 Zip=true:=by kernel_rfl
theorem Zfg:cQ 215 Zce=true:=by kernel_rfl
theorem Zl8:cQ 216 Zmc=true:=by kernel_rfl
theorem Zkh:cQ 217 Zka=true:=by kernel_rfl
theorem Zdg:cQ 226 Zf4=true:=by kernel_rfl
theorem Zj2:cQ 227 Zaj=true:=by kernel_rfl
theorem Zhk:cQ 228 Zoj=true:=by kernel_rfl
theorem Zmm:cQ 229 Zi4=true:=by kernel_rfl
theorem Zj9:cQ 230 Zpe=true:=by kernel_rfl
theorem Zbc:cQ 231 Zjt=true:=by kernel_rfl
theorem Zhb:cQ 232 Znt=true:=by kernel_rfl
theorem Zif:cQ 233 Zlt=true:=by kernel_rfl
theorem Zk0:cQ 234 Zbk=true:=by kernel_rfl
theorem Zmt:cQ 235 Zdb=true:=by kernel_rfl
theorem Ztd:cQ 236 Zi5=true:=by kernel_rfl
theorem Zmr:cQ 237 Zga=true:=by kernel_rfl
theorem Zwz:cQ 238 Zpz=true:=by kernel_rfl
theorem Zcf:cQ 239 Zke=true:=by kernel_rfl
theorem Zuy:cQ 240 Zi1=true:=by kernel_rfl
end
end Go.Av
namespace Go.Av
noncomputable section
open Go.Proofs
set_option maxRecDepth 100000
theorem Zkg:cQ 241 Zc5=true:=by kernel_rfl
theorem Zu8:cQ 242 Zen=true:=by kernel_rfl
theorem Zk6:cQ 243 Zjp=true:=by kernel_rfl
theorem Ztk:cQ 244 Zhv=true:=by kernel_rfl
theorem Zg4:cQ 245 Z9h=true:=by kernel_rfl
theorem Zgb:cQ 246 Zij=true:=by kernel_rfl
theorem Zvf:cQ 247 Zkc=true:=by kernel_rfl
theorem Zh3:cQ 248 Zjr=true:=by kernel_rfl
theorem Zd9:cQ 249 Zia=true:=by kernel_rfl
theorem Zfh:cQ 250 Z9x=true:=by kernel_rfl
theorem Zox:cQ 251 Zo7=true:=by kernel_rfl
theorem Zlz:cQ 252 Zoi=true:=by kernel_rfl
theorem Zwn:cQ 253 Zbb=true:=by kernel_rfl
theorem Zej:cQ 254 Zoy=true:=by kernel_rfl
theorem Z7i:cQ 255 Zng=true:=by kernel_rfl
theorem Zg8:cQ 256 Zix=true:=by kernel_rfl
theorem Zoz:cQ 257 Zo8=true:=by kernel_rfl
theorem Zwm:cQ 258 Zf6=true:=by kernel_rfl
theorem Zs3:cQ 259 Ze6=true:=by kernel_rfl
theorem Zr6:cQ 260 Ze7=true:=by kernel_rfl
theorem Zq8:cQ 261 Zhn=true:=by kernel_rfl
theorem Zq4:cQ 262 Znv=true:=by kernel_rfl
theorem Zqm:cQ 263 Zit=true:=by kernel_rfl
theorem Zti:cQ 264 Zh5=true:=by kernel_rfl
theorem Zv7:cQ 265 Zki=true:=by kernel_rfl
theorem Zv9:cQ 266 Zjh=true:=by kernel_rfl
theorem Zus:cQ 267 Zoa=true:=by kernel_rfl
theorem Zry:cQ 268 Zf5=true:=by kernel_rfl
theorem Zs7:cQ 269 Zdq=true:=by kernel_rfl
theorem Zs2:cQ 270 Zo0=true:=by kernel_rfl
theorem Zwp:cQ 271 Zp4=true:=by kernel_rfl
theorem Za7:cQ 272 Z9f=true:=by kernel_rfl
theorem Qyu:cQ 273 Zak=true:=by kernel_rfl
theorem Z48:cQ 274 Zlk=true:=by kernel_rfl
theorem Qvp:cQ 275 Zbm=true:=by kernel_rfl
theorem Z5y:cQ 276 Zml=true:=by kernel_rfl
theorem Zwb:cQ 277 Zdp=true:=by kernel_rfl
theorem Zx5:cQ 278 Zd3=true:=by kernel_rfl
theorem Ztg:cQ 279 Zca=true:=by kernel_rfl
end
end Go.Av
namespace Go.Av
noncomputable section
open Go.Proofs
set_option maxRecDepth 100000
theorem Zvk:cQ 280 Zjj=true:=by kernel_rfl
theorem Zqz:cQ 281 Zju=true:=by kernel_rfl
theorem Zta:cQ 282 Z9u=true:=by kernel_rfl
theorem Zqu:cQ 283 Zd5=true:=by kernel_rfl
theorem Zvw:cQ 284 Zkt=true:=by kernel_rfl
theorem Zvz:cQ 285 Zb5=true:=by kernel_rfl
theorem Zvc:cQ 286 Zht=true:=by kernel_rfl
theorem Zhf:cQ 288 Zkb=true:=by kernel_rfl
theorem Z6d:cQ 289 Ziq=true:=by kernel_rfl
theorem Zjs:cQ 290 Zpv=true:=by kernel_rfl
theorem Zee:cQ 291 Zob=true:=by kernel_rfl
theorem Zb6:cQ 292 Zgp=true:=by kernel_rfl
theorem Zku:cQ 293 Z9i=true:=by kernel_rfl
theorem Zdo:cQ 294 Zmg=true:=by kernel_rfl
theorem Zk1:cQ 295 Zon=true:=by kernel_rfl
theorem Znp:cQ 296 Zfj=true:=by kernel_rfl
theorem Zsp:cQ 297 Za0=true:=by kernel_rfl
theorem Zvq:cQ 298 Zm4=true:=by kernel_rfl
theorem Zut:cQ 299 Zi7=true:=by kernel_rfl
theorem Zwf:cQ 300 Zdi=true:=by kernel_rfl
theorem Zw4:cQ 301 Zck=true:=by kernel_rfl
theorem Zsk:cQ 302 Z9j=true:=by kernel_rfl
theorem Znd:cQ 303 Zex=true:=by kernel_rfl
theorem Zba:cQ 304 Zp5=true:=by kernel_rfl
theorem Zqc:cQ 305 Zh6=true:=by kernel_rfl
theorem Zx9:cQ 306 Zpc=true:=by kernel_rfl
theorem Ztc:cQ 307 Zj0=true:=by kernel_rfl
theorem Zha:cQ 308 Zp9=true:=by kernel_rfl
theorem Zpa:cQ 309 Zpo=true:=by kernel_rfl
theorem Zpg:cQ 310 Zag=true:=by kernel_rfl
theorem Zgz:cQ 311 Zj4=true:=by kernel_rfl
theorem Zwj:cQ 312 Za6=true:=by kernel_rfl
theorem Zsb:cQ 313 Zn9=true:=by kernel_rfl
theorem Zuh:cQ 314 Zpd=true:=by kernel_rfl
theorem Ztl:cQ 315 Zi2=true:=by kernel_rfl
theorem Zgo:cQ 316 Zcw=true:=by kernel_rfl
theorem Z9k:cQ 317 Zg6=true:=by kernel_rfl
theorem Zf1:cQ 318 Zap=true:=by kernel_rfl
theorem Zod:cQ 319 Zc8=true:=by kernel_rfl
theorem Zqf:cQ 320 Zl6=true:=by kernel_rfl
theorem Zhe:cQ 321 Zc7=true:=by kernel_rfl
theorem Zp8:cQ 322 Zl9=true:=by kernel_rfl
theorem Zq7:cQ 323 Zog=true:=by kernel_rfl
theorem Zn5:cQ 324 Zmj=true:=by kernel_rfl
theorem Zb1:cQ 325 Zid=true:=by kernel_rfl
theorem Zcs:cQ 326 Zh1=true:=by kernel_rfl
theorem Z9c:cQ 327 Znz=true:=by kernel_rfl
end
end Go.Av
namespace Go.Av
noncomputable section
open Go.Proofs
set_option maxRecDepth 100000
theorem Za4:cQ 328 Zfc=true:=by kernel_rfl
theorem Zli:cQ 329 Zbw=true:=by kernel_rfl
theorem Zma:cQ 330 Zjd=true:=by kernel_rfl
theorem Zl4:cQ 331 Zes=true:=by kernel_rfl
theorem Zld:cQ 332 Zgn=true:=by kernel_rfl
theorem Zhc:cQ 333 Zk8=true:=by kernel_rfl
theorem Zje:cQ 334 Ze5=true:=by kernel_rfl
theorem Za5:cQ 335 Zfl=true:=by kernel_rfl
theorem Zfy:cQ 336 Zio=true:=by kernel_rfl
theorem Zfe:cQ 337 Zds=true:=by kernel_rfl
theorem Zmx:cQ 338 Zhl=true:=by kernel_rfl
theorem Zqq:cQ 339 Zjy=true:=by kernel_rfl
theorem Zqk:cQ 340 Zd2=true:=by kernel_rfl
theorem Zu5:cQ 341 Zmb=true:=by kernel_rfl
theorem Zt2:cQ 342 Zm0=true:=by kernel_rfl
theorem Zs6:cQ 343 Zhd=true:=by kernel_rfl
theorem Zt1:cQ 344 Zg1=true:=by kernel_rfl
theorem Zuc:cQ 345 Zfu=true:=by kernel_rfl
theorem Zsn:cQ 346 Zef=true:=by kernel_rfl
theorem Zvn:cQ 347 Zal=true:=by kernel_rfl
theorem Zu0:cQ 348 Zge=true:=by kernel_rfl
theorem Zt6:cQ 349 Zj3=true:=by kernel_rfl
theorem Zx4:cQ 350 Zdw=true:=by kernel_rfl
theorem Zvl:cQ 351 Zls=true:=by kernel_rfl
theorem Zwi:cQ 352 Zet=true:=by kernel_rfl
theorem Zby:cQ 353 Zp7=true:=by kernel_rfl
theorem Zwq:cQ 354 Zae=true:=by kernel_rfl
theorem Zr0:cQ 355 Zaf=true:=by kernel_rfl
theorem Zx3:cQ 356 Ziv=true:=by kernel_rfl
theorem Zuf:cQ 357 Zi3=true:=by kernel_rfl
theorem Zx8:cQ 358 Zhu=true:=by kernel_rfl
theorem Zuo:cQ 359 Zq0=true:=by kernel_rfl
theorem Zro:cQ 360 Zl1=true:=by kernel_rfl
theorem Zur:cQ 361 Zaw=true:=by kernel_rfl
theorem Zwc:cQ 362 Znl=true:=by kernel_rfl
theorem Zj7:cQ 364 Zn6=true:=by kernel_rfl
theorem Zni:cQ 365 Zcd=true:=by kernel_rfl
theorem Zr8:cQ 366 Zl5=true:=by kernel_rfl
theorem Zs1:cQ 367 Zig=true:=by kernel_rfl
theorem Zrc:cQ 368 Zfn=true:=by kernel_rfl
theorem Zw3:cQ 369 Znh=true:=by kernel_rfl
theorem Zt8:cQ 370 Zf8=true:=by kernel_rfl
theorem Zk7:cQ 371 Zlg=true:=by kernel_rfl
theorem Zs9:cQ 372 Zj5=true:=by kernel_rfl
theorem Z9r:cQ 373 Zhr=true:=by kernel_rfl
theorem Zor:cQ 374 Zcl=true:=by kernel_rfl
theorem Z9s:cQ 375 Zir=true:=by kernel_rfl
theorem Zk4:cQ 376 Zh2=true:=by kernel_rfl
theorem Zcc:cQ 377 Zhp=true:=by kernel_rfl
theorem Zs0:cQ 378 Zom=true:=by kernel_rfl
end
end Go.Av
namespace Go.Av
noncomputable section
open Go.Proofs
set_option maxRecDepth 100000
theorem Zvr:cQ 379 Zgf=true:=by kernel_rfl
theorem Zv3:cQ 380 Zjw=true:=by kernel_rfl
theorem Zb4:cQ 381 Znm=true:=by kernel_rfl
theorem Zrx:cQ 382 Zne=true:=by kernel_rfl
theorem Zed:cQ 383 Zo4=true:=by kernel_rfl
theorem Zgd:cQ 384 Zkx=true:=by kernel_rfl
theorem Zm2:cQ 385 Zg0=true:=by kernel_rfl
theorem Zdz:cQ 386 Zfs=true:=by kernel_rfl
theorem Z85:cQ 387 Zin=true:=by kernel_rfl
theorem Z89:cQ 388 Zbz=true:=by kernel_rfl
theorem Zfw:cQ 389 Zjk=true:=by kernel_rfl
theorem Z7u:cQ 390 Zic=true:=by kernel_rfl
theorem Z9z:cQ 391 Zjx=true:=by kernel_rfl
theorem Z80:cQ 392 Zau=true:=by kernel_rfl
theorem Zr1:cQ 393 Zla=true:=by kernel_rfl
theorem Zg9:cQ 394 Zcr=true:=by kernel_rfl
theorem Zi9:cQ 395 Zc2=true:=by kernel_rfl
theorem Zdm:cQ 396 Zbs=true:=by kernel_rfl
theorem Zqs:cQ 397 Zf0=true:=by kernel_rfl
theorem Ztp:cQ 399 Zhm=true:=by kernel_rfl
theorem Zsf:cQ 400 Zbo=true:=by kernel_rfl
theorem Zuj:cQ 401 Zii=true:=by kernel_rfl
theorem Zso:cQ 402 Zfd=true:=by kernel_rfl
theorem Zx1:cQ 403 Zji=true:=by kernel_rfl
theorem Zqo:cQ 404 Zc0=true:=by kernel_rfl
theorem Zx0:cQ 405 Zgs=true:=by kernel_rfl
theorem Ztq:cQ 406 Za9=true:=by kernel_rfl
theorem Zv2:cQ 407 Zdu=true:=by kernel_rfl
theorem Zrp:cQ 408 Zjn=true:=by kernel_rfl
theorem Zr9:cQ 409 Zc4=true:=by kernel_rfl
theorem Zte:cQ 410 Zpm=true:=by kernel_rfl
theorem Zrb:cQ 411 Zbg=true:=by kernel_rfl
theorem Zr7:cQ 412 Zd1=true:=by kernel_rfl
theorem Zqb:cQ 413 Zfv=true:=by kernel_rfl
theorem Zrw:cQ 414 Zgt=true:=by kernel_rfl
theorem Zwh:cQ 415 Zdt=true:=by kernel_rfl
theorem Ztf:cQ 416 Zkf=true:=by kernel_rfl
theorem Zrh:cQ 417 Zgv=true:=by kernel_rfl
theorem Zsa:cQ 418 Zkw=true:=by kernel_rfl
theorem Zst:cQ 419 Zew=true:=by kernel_rfl
theorem Zqx:cQ 420 Zik=true:=by kernel_rfl
theorem Zui:cQ 421 Zl2=true:=by kernel_rfl
theorem Zs8:cQ 422 Zh7=true:=by kernel_rfl
theorem Zsc:cQ 423 Zcu=true:=by kernel_rfl
end
end Go.Av
namespace Go.Av
noncomputable section
open Go.Proofs
set_option maxRecDepth 100000
theorem Zu9:cQ 424 Zhs=true:=by kernel_rfl
theorem Zbx:cQ 425 Zm1=true:=by kernel_rfl
theorem Zun:cQ 426 Zph=true:=by kernel_rfl
theorem Zqh:cQ 427 Zb7=true:=by kernel_rfl
theorem Zsv:cQ 428 Zjq=true:=by kernel_rfl
theorem Zm9:cQ 429 Zgl=true:=by kernel_rfl
theorem Zjb:cQ 430 Zhh=true:=by kernel_rfl
theorem Zc1:cQ 431 Zm6=true:=by kernel_rfl
theorem Zlu:cQ 432 Zp2=true:=by kernel_rfl
theorem Zko:cQ 433 Zow=true:=by kernel_rfl
theorem Zib:cQ 434 Zmn=true:=by kernel_rfl
theorem Zmo:cQ 435 Zb2=true:=by kernel_rfl
theorem Zpp:cQ 436 Zlq=true:=by kernel_rfl
theorem Zuw:cQ 437 Zly=true:=by kernel_rfl
theorem Zq6:cQ 438 Zoe=true:=by kernel_rfl
theorem Zw7:cQ 439 Zh4=true:=by kernel_rfl
theorem Zjv:cQ 440 Zgr=true:=by kernel_rfl
theorem Zwa:cQ 441 Zbv=true:=by kernel_rfl
theorem Zou:cQ 442 Zan=true:=by kernel_rfl
theorem Zsh:cQ 443 Zf2=true:=by kernel_rfl
theorem Zqe:cQ 444 Zok=true:=by kernel_rfl
theorem Zwd:cQ 445 Zjz=true:=by kernel_rfl
theorem Zvd:cQ 446 Za8=true:=by kernel_rfl
theorem Zrr:cQ 447 Zis=true:=by kernel_rfl
theorem Zxc:cQ 448 Ze2=true:=by kernel_rfl
theorem Zux:cQ 449 Zdn=true:=by kernel_rfl
theorem Zu6:cQ 450 Zep=true:=by kernel_rfl
theorem Zvm:cQ 451 Zos=true:=by kernel_rfl
theorem Zxb:cQ 452 Zk9=true:=by kernel_rfl
theorem Zu4:cQ 453 Zbf=true:=by kernel_rfl
theorem Zvj:cQ 454 Zmz=true:=by kernel_rfl
theorem Zsz:cQ 455 Zei=true:=by kernel_rfl
theorem Zru:cQ 456 Ziz=true:=by kernel_rfl
theorem Zts:cQ 457 Zpu=true:=by kernel_rfl
theorem Zvy:cQ 458 Zpk=true:=by kernel_rfl
theorem Zvv:cQ 459 Zgw=true:=by kernel_rfl
theorem Zs4:cQ 460 Zn3=true:=by kernel_rfl
theorem Zsl:cQ 461 Zgg=true:=by kernel_rfl
theorem Zlo:cQ 462 Zgm=true:=by kernel_rfl
theorem Zn0:cQ 463 Zps=true:=by kernel_rfl
theorem Zbe:cQ 464 Zdk=true:=by kernel_rfl
theorem Zam:cQ 465 Zbu=true:=by kernel_rfl
theorem Zsm:cQ 466 Zfr=true:=by kernel_rfl
theorem Zre:cQ 467 Zh8=true:=by kernel_rfl
theorem Zqg:cQ 468 Zo5=true:=by kernel_rfl
theorem Zwe:cQ 469 Zmw=true:=by kernel_rfl
theorem Zu3:cQ 470 Zof=true:=by kernel_rfl
theorem Zvb:cQ 471 Zpw=true:=by kernel_rfl
theorem Zrk:cQ 472 Zab=true:=by kernel_rfl
theorem Zd4:cQ 473 Zn7=true:=by kernel_rfl
theorem Zvu:cQ 475 Zlx=true:=by kernel_rfl
theorem Zq5:cQ 476 Zfp=true:=by kernel_rfl
theorem Zv5:cQ 477 Zft=true:=by kernel_rfl
theorem Zth:cQ 478 Zch=true:=by kernel_rfl
theorem Zss:cQ 479 Zlh=true:=by kernel_rfl
theorem Zty:cQ 480 Zm8=true:=by kernel_rfl
theorem Zw6:cQ 481 Zno=true:=by kernel_rfl
theorem Zv4:cQ 482 Zpi=true:=by kernel_rfl
theorem Zrd:cQ 483 Zme=true:=by kernel_rfl
theorem Zsy:cQ 484 Z9e=true:=by kernel_rfl
theorem Ztu:cQ 485 Zmh=true:=by kernel_rfl
theorem Zrf:cQ 486 Zlf=true:=by kernel_rfl
theorem Zu7:cQ 487 Zdh=true:=by kernel_rfl
theorem Zw1:cQ 488 Znn=true:=by kernel_rfl
theorem Zsx:cQ 489 Zp0=true:=by kernel_rfl
end
end Go.Av
namespace Go.Av
noncomputable section
open Go.Proofs
set_option maxRecDepth 100000
theorem Zwg:cQ 490 Zda=true:=by kernel_rfl
theorem Zrg:cQ 491 Z9o=true:=by kernel_rfl
theorem Zul:cQ 492 Zah=true:=by kernel_rfl
theorem Zeh:cQ 495 Zo3=true:=by kernel_rfl
theorem Zad:cQ 496 Zn4=true:=by kernel_rfl
theorem Zlw:cQ 497 Zb3=true:=by kernel_rfl
theorem Ztv:cQ 498 Z9v=true:=by kernel_rfl
theorem Zwl:cQ 499 Zp1=true:=by kernel_rfl
theorem Zw9:cQ 500 Zmi=true:=by kernel_rfl
theorem Zsi:cQ 501 Zao=true:=by kernel_rfl
theorem Zse:cQ 502 Znc=true:=by kernel_rfl
theorem Zuz:cQ 503 Zns=true:=by kernel_rfl
theorem Zx7:cQ 504 Zj6=true:=by kernel_rfl
theorem Zwx:cQ 505 Zop=true:=by kernel_rfl
theorem Zv6:cQ 506 Zay=true:=by kernel_rfl
theorem Zww:cQ 507 Zfb=true:=by kernel_rfl
theorem Zu2:cQ 508 Zq2=true:=by kernel_rfl
theorem Zqy:cQ 509 Zhg=true:=by kernel_rfl
theorem Zri:cQ 510 Zpl=true:=by kernel_rfl
theorem Zue:cQ 511 Zhi=true:=by kernel_rfl
theorem Zuv:cQ 512 Znk=true:=by kernel_rfl
theorem Zsr:cQ 513 Zn2=true:=by kernel_rfl
theorem Zto:cQ 514 Zg3=true:=by kernel_rfl
theorem Zov:cQ 515 Zhj=true:=by kernel_rfl
theorem Zaa:cQ 516 Ze9=true:=by kernel_rfl
theorem Z9p:cQ 517 Zho=true:=by kernel_rfl
theorem Zgx:cQ 518 Zoc=true:=by kernel_rfl
theorem Z8n:cQ 519 Zpf=true:=by kernel_rfl
end
end Go.Av
namespace Go.Av
noncomputable section
open Go.Proofs
set_option maxRecDepth 100000
theorem Zqj:cQ 520 Zpt=true:=by kernel_rfl
theorem Zvs:cQ 521 Zey=true:=by kernel_rfl
theorem Zvg:cQ 522 Zar=true:=by kernel_rfl
theorem Ztz:cQ 523 Zl0=true:=by kernel_rfl
theorem Zw5:cQ 524 Zci=true:=by kernel_rfl
theorem Zwr:cQ 525 Zdj=true:=by kernel_rfl
theorem Zna:cQ 526 Zpb=true:=by kernel_rfl
theorem Ze3:cQ 527 Za2=true:=by kernel_rfl
theorem Zqt:cQ 529 Zd8=true:=by kernel_rfl
theorem Zs5:cQ 530 Zdx=true:=by kernel_rfl
theorem Zvt:cQ 531 Znu=true:=by kernel_rfl
theorem Zpx:cQ 532 Zky=true:=by kernel_rfl
theorem Zrz:cQ 533 Zdd=true:=by kernel_rfl
end
end Go.Av

