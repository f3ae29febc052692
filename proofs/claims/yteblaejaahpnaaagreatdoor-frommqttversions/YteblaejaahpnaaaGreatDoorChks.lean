/- Part of the proof of FrommqttVersions: for every input the law returns true; no condition. -/
import Derived.Test.YteblaejaahpnaaaGreatDoorCode1
import Derived.Test.YteblaejaahpnaaaGreatDoorAvChk
import Derived.KernelRfl
import Derived.Test.YteblaejaahpnaaaGreatDoorProg
set_option linter.all false
namespace Go.Av
noncomputable section
open Go.Proofs
set_option maxRecDepth 100000
abbrev cQ:=Q0b Tryz.prog
theorem k4:cQ 4 c4=true:=by kernel_rfl
theorem k5:cQ 5 c5=true:=by kernel_rfl
theorem k6:cQ 6 c6=true:=by kernel_rfl
theorem k8:cQ 8 c8=true:=by kernel_rfl
theorem k9:cQ 9 c9=true:=by kernel_rfl
theorem k10:cQ 10 c10=true:=by kernel_rfl
theorem k11:cQ 11 c11=true:=by kernel_rfl
theorem k13:cQ 13 c13=true:=by kernel_rfl
theorem k14:cQ 14 c14=true:=by kernel_rfl
theorem k16:cQ 16 c16=true:=by kernel_rfl
theorem k17:cQ 17 c17=true:=by kernel_rfl
theorem k18:cQ 18 c18=true:=by kernel_rfl
theorem k19:cQ 19 c19=true:=by kernel_rfl
theorem k22:cQ 22 c22=true:=by kernel_rfl
theorem k23:cQ 23 c23=true:=by kernel_rfl
theorem k24:cQ 24 c24=true:=by kernel_rfl
theorem k25:cQ 25 c25=true:=by kernel_rfl
theorem k26:cQ 26 c26=true:=by kernel_rfl
theorem k27:cQ 27 c27=true:=by kernel_rfl
theorem k28:cQ 28 c28=true:=by kernel_rfl
theorem k29:cQ 29 c29=true:=by kernel_rfl
theorem k30:cQ 30 c30=true:=by kernel_rfl
theorem k31:cQ 31 c31=true:=by kernel_rfl
theorem k32:cQ 32 c32=true:=by kernel_rfl
theorem k33:cQ 33 c33=true:=by kernel_rfl
theorem k34:cQ 34 c34=true:=by kernel_rfl
theorem k35:cQ 35 c35=true:=by kernel_rfl
theorem k39:cQ 39 c39=true:=by kernel_rfl
theorem k40:cQ 40 c40=true:=by kernel_rfl
theorem k41:cQ 41 c41=true:=by kernel_rfl
theorem k43:cQ 43 c43=true:=by kernel_rfl
theorem k44:cQ 44 c44=true:=by kernel_rfl
theorem k45:cQ 45 c45=true:=by kernel_rfl
end
end Go.Av
namespace Go.Av
noncomputable section
open Go.Proofs
set_option maxRecDepth 100000
theorem k46:cQ 46 c46=true:=by kernel_rfl
theorem k49:cQ 49 c49=true:=by kernel_rfl
theorem k50:cQ 50 c50=true:=by kernel_rfl
theorem k51:cQ 51 c51=true:=by kernel_rfl
theorem k52:cQ 52 c52=true:=by kernel_rfl
theorem k53:cQ 53 c53=true:=by kernel_rfl
theorem k54:cQ 54 c54=true:=by kernel_rfl
theorem k55:cQ 55 c55=true:=by kernel_rfl
theorem k56:cQ 56 c56=true:=by kernel_rfl
theorem k57:cQ 57 c57=true:=by kernel_rfl
theorem k58:cQ 58 c58=true:=by kernel_rfl
theorem k59:cQ 59 c59=true:=by kernel_rfl
theorem k60:cQ 60 c60=true:=by kernel_rfl
theorem k63:cQ 63 c63=true:=by kernel_rfl
theorem k68:cQ 68 c68=true:=by kernel_rfl
theorem k69:cQ 69 c69=true:=by kernel_rfl
theorem k70:cQ 70 c70=true:=by kernel_rfl
theorem k71:cQ 71 c71=true:=by kernel_rfl
theorem k72:cQ 72 c72=true:=by kernel_rfl
theorem k73:cQ 73 c73=true:=by kernel_rfl
theorem k74:cQ 74 c74=true:=by kernel_rfl
theorem k75:cQ 75 c75=true:=by kernel_rfl
theorem k76:cQ 76 c76=true:=by kernel_rfl
theorem k77:cQ 77 c77=true:=by kernel_rfl
theorem k78:cQ 78 c78=true:=by kernel_rfl
theorem k79:cQ 79 c79=true:=by kernel_rfl
theorem k80:cQ 80 c80=true:=by kernel_rfl
theorem k82:cQ 82 c82=true:=by kernel_rfl
theorem k83:cQ 83 c83=true:=by kernel_rfl
theorem k84:cQ 84 c84=true:=by kernel_rfl
theorem k85:cQ 85 c85=true:=by kernel_rfl
end
end Go.Av
namespace Go.Av
noncomputable section
open Go.Proofs
set_option maxRecDepth 100000
theorem k86:cQ 86 c86=true:=by kernel_rfl
theorem k87:cQ 87 c87=true:=by kernel_rfl
theorem k88:cQ 88 c88=true:=by kernel_rfl
theorem k89:cQ 89 c89=true:=by kernel_rfl
theorem k90:cQ 90 c90=true:=by kernel_rfl
theorem k91:cQ 91 c91=true:=by kernel_rfl
theorem k92:cQ 92 c92=true:=by kernel_rfl
theorem k93:cQ 93 c93=true:=by kernel_rfl
theorem k94:cQ 94 c94=true:=by kernel_rfl
theorem k95:cQ 95 c95=true:=by kernel_rfl
theorem k96:cQ 96 c96=true:=by kernel_rfl
theorem k97:cQ 97 c97=true:=by kernel_rfl
theorem k98:cQ 98 c98=true:=by kernel_rfl
theorem k99:cQ 99 c99=true:=by kernel_rfl
theorem Qxq:cQ 100 Z1r=true:=by kernel_rfl
theorem Z67:cQ 101 Z38=true:=by kernel_rfl
theorem Z40:cQ 102 Qw5=true:=by kernel_rfl
theorem Qzq:cQ 103 Z5g=true:=by kernel_rfl
theorem Qx5:cQ 104 Qx3=true:=by kernel_rfl
theorem Zcg:cQ 105 Qyo=true:=by kernel_rfl
theorem Qzu:cQ 106 Z52=true:=by kernel_rfl
theorem Qvn:cQ 107 Z1h=true:=by kernel_rfl
theorem Qtr:cQ 108 Z29=true:=by kernel_rfl
theorem Z6n:cQ 109 Qvl=true:=by kernel_rfl
theorem Qzf:cQ 110 Qxz=true:=by kernel_rfl
theorem Z0s:cQ 111 Qtw=true:=by kernel_rfl
theorem Ze9:cQ 112 Z03=true:=by kernel_rfl
theorem Z88:cQ 113 Z3p=true:=by kernel_rfl
theorem Z05:cQ 114 Z30=true:=by kernel_rfl
theorem Z9n:cQ 115 Qye=true:=by kernel_rfl
theorem Z9d:cQ 116 Qwv=true:=by kernel_rfl
theorem Quv:cQ 117 Z2f=true:=by kernel_rfl
theorem Qti:cQ 118 Z15=true:=by kernel_rfl
theorem Zdg:cQ 121 Z56=true:=by kernel_rfl
theorem Zbb:cQ 122 Qv8=true:=by kernel_rfl
theorem Z10:cQ 123 Z6p=true:=by kernel_rfl
theorem Qz7:cQ 124 Qyt=true:=by kernel_rfl
theorem Qws:cQ 131 Z3x=true:=by kernel_rfl
theorem Qxi:cQ 132 Qv1=true:=by kernel_rfl
theorem Z60:cQ 133 Z4p=true:=by kernel_rfl
theorem Qw8:cQ 134 Qu6=true:=by kernel_rfl
theorem Z4h:cQ 135 Qyw=true:=by kernel_rfl
theorem Z3q:cQ 136 Z5q=true:=by kernel_rfl
theorem Z68:cQ 137 Z2w=true:=by kernel_rfl
theorem Z0z:cQ 138 Z5w=true:=by kernel_rfl
theorem Qzv:cQ 139 Z6i=true:=by kernel_rfl
theorem Zay:cQ 140 Qty=true:=by kernel_rfl
theorem Z2t:cQ 141 Z18=true:=by kernel_rfl
theorem Qum:cQ 142 Z0c=true:=by kernel_rfl
theorem Qt2:cQ 143 Quu=true:=by kernel_rfl
theorem Zd1:cQ 144 Qur=true:=by kernel_rfl
theorem Qwh:cQ 145 Z6c=true:=by kernel_rfl
end
end Go.Av
namespace Go.Av
noncomputable section
open Go.Proofs
set_option maxRecDepth 100000
theorem Qze:cQ 146 Qtu=true:=by kernel_rfl
theorem Z1t:cQ 147 Qtj=true:=by kernel_rfl
theorem Za8:cQ 148 Z2p=true:=by kernel_rfl
theorem Zeu:cQ 149 Qvd=true:=by kernel_rfl
theorem Zd5:cQ 150 Z3z=true:=by kernel_rfl
theorem Z9k:cQ 151 Z5h=true:=by kernel_rfl
theorem Zeh:cQ 152 Z69=true:=by kernel_rfl
theorem Zdq:cQ 153 Z6h=true:=by kernel_rfl
theorem Qwp:cQ 154 Quy=true:=by kernel_rfl
theorem Qte:cQ 155 Qzn=true:=by kernel_rfl
theorem Zde:cQ 156 Z2z=true:=by kernel_rfl
theorem Zf3:cQ 157 Qtt=true:=by kernel_rfl
theorem Z8s:cQ 158 Z4z=true:=by kernel_rfl
theorem Zcl:cQ 159 Qux=true:=by kernel_rfl
theorem Zba:cQ 160 Qui=true:=by kernel_rfl
theorem Z9q:cQ 161 Qx8=true:=by kernel_rfl
theorem Zev:cQ 162 Z2e=true:=by kernel_rfl
theorem Z4a:cQ 163 Z2y=true:=by kernel_rfl
theorem Z8m:cQ 164 Qz8=true:=by kernel_rfl
theorem Z89:cQ 165 Qzm=true:=by kernel_rfl
theorem Z11:cQ 166 Z4n=true:=by kernel_rfl
theorem Zd8:cQ 167 Qu0=true:=by kernel_rfl
theorem Zf2:cQ 168 Quc=true:=by kernel_rfl
theorem Zcd:cQ 169 Qu7=true:=by kernel_rfl
theorem Zcq:cQ 170 Qv9=true:=by kernel_rfl
theorem Z9w:cQ 171 Qy3=true:=by kernel_rfl
theorem Zdc:cQ 172 Z06=true:=by kernel_rfl
theorem Zf5:cQ 173 Z0v=true:=by kernel_rfl
theorem Zac:cQ 174 Z19=true:=by kernel_rfl
theorem Z8r:cQ 175 Z6g=true:=by kernel_rfl
theorem Z6y:cQ 176 Qzl=true:=by kernel_rfl
theorem Zd9:cQ 177 Qw0=true:=by kernel_rfl
theorem Qwl:cQ 178 Z3y=true:=by kernel_rfl
theorem Z8t:cQ 179 Z35=true:=by kernel_rfl
theorem Ze5:cQ 180 Qz0=true:=by kernel_rfl
theorem Z50:cQ 181 Qut=true:=by kernel_rfl
theorem Z0d:cQ 182 Z3a=true:=by kernel_rfl
theorem Z72:cQ 183 Qyr=true:=by kernel_rfl
theorem Z7e:cQ 184 Z07=true:=by kernel_rfl
theorem Z2i:cQ 185 Z04=true:=by kernel_rfl
theorem Z2s:cQ 186 Qyg=true:=by kernel_rfl
theorem Zcw:cQ 187 Z37=true:=by kernel_rfl
theorem Z9c:cQ 188 Z08=true:=by kernel_rfl
theorem Z6t:cQ 189 Z5l=true:=by kernel_rfl
theorem Z58:cQ 190 Qvp=true:=by kernel_rfl
theorem Zae:cQ 191 Qtb=true:=by kernel_rfl
theorem Za2:cQ 192 Z1c=true:=by kernel_rfl
theorem Z75:cQ 193 Qvc=true:=by kernel_rfl
theorem Zab:cQ 194 Z3n=true:=by kernel_rfl
theorem Zet:cQ 195 Qth=true:=by kernel_rfl
theorem Qzs:cQ 196 Z4s=true:=by kernel_rfl
theorem Z4e:cQ 198 Z1y=true:=by kernel_rfl
theorem Qxg:cQ 199 Qua=true:=by kernel_rfl
end
end Go.Av
namespace Go.Av
noncomputable section
open Go.Proofs
set_option maxRecDepth 100000
theorem Z39:cQ 200 Z46=true:=by kernel_rfl
theorem Z90:cQ 201 Z6k=true:=by kernel_rfl
theorem Qzc:cQ 202 Z4t=true:=by kernel_rfl
theorem Z5c:cQ 215 Z2v=true:=by kernel_rfl
theorem Z49:cQ 216 Z1s=true:=by kernel_rfl
theorem Qww:cQ 217 Qz1=true:=by kernel_rfl
theorem Z8e:cQ 218 Z31=true:=by kernel_rfl
theorem Z9r:cQ 219 Z1v=true:=by kernel_rfl
theorem Zer:cQ 220 Z0o=true:=by kernel_rfl
theorem Qv6:cQ 221 Z3d=true:=by kernel_rfl
theorem Z1m:cQ 222 Qzw=true:=by kernel_rfl
theorem Qw1:cQ 223 Qvj=true:=by kernel_rfl
theorem Z6m:cQ 224 Qzh=true:=by kernel_rfl
theorem Z0g:cQ 225 Qwx=true:=by kernel_rfl
theorem Zas:cQ 226 Qu3=true:=by kernel_rfl
theorem Zd7:cQ 227 Z4j=true:=by kernel_rfl
theorem Zcy:cQ 228 Z0m=true:=by kernel_rfl
theorem Zaq:cQ 229 Quo=true:=by kernel_rfl
theorem Ze2:cQ 230 Z1q=true:=by kernel_rfl
theorem Ze6:cQ 231 Z23=true:=by kernel_rfl
theorem Z1p:cQ 232 Qwe=true:=by kernel_rfl
theorem Qwu:cQ 233 Z0u=true:=by kernel_rfl
theorem Zah:cQ 234 Z5b=true:=by kernel_rfl
theorem Z7n:cQ 235 Z4d=true:=by kernel_rfl
theorem Z9e:cQ 236 Qzo=true:=by kernel_rfl
theorem Zen:cQ 237 Z0j=true:=by kernel_rfl
theorem Z9h:cQ 238 Z4o=true:=by kernel_rfl
theorem Zcj:cQ 239 Z6q=true:=by kernel_rfl
theorem Z7t:cQ 240 Z09=true:=by kernel_rfl
theorem Za3:cQ 241 Z21=true:=by kernel_rfl
theorem Zal:cQ 242 Qxs=true:=by kernel_rfl
theorem Qzi:cQ 243 Qvw=true:=by kernel_rfl
theorem Z7w:cQ 244 Z0r=true:=by kernel_rfl
theorem Qvv:cQ 245 Qx7=true:=by kernel_rfl
theorem Qw3:cQ 246 Qzb=true:=by kernel_rfl
end
end Go.Av
namespace Go.Av
noncomputable section
open Go.Proofs
set_option maxRecDepth 100000
theorem Zbg:cQ 247 Quh=true:=by kernel_rfl
theorem Qza:cQ 248 Z54=true:=by kernel_rfl
theorem Qtc:cQ 249 Qzk=true:=by kernel_rfl
theorem Qvx:cQ 250 Qzx=true:=by kernel_rfl
theorem Z4l:cQ 251 Z0q=true:=by kernel_rfl
theorem Qwb:cQ 252 Z0w=true:=by kernel_rfl
theorem Z8l:cQ 253 Z5d=true:=by kernel_rfl
theorem Z93:cQ 254 Qtk=true:=by kernel_rfl
theorem Zc6:cQ 255 Qu2=true:=by kernel_rfl
theorem Zcs:cQ 256 Z1j=true:=by kernel_rfl
theorem Z34:cQ 257 Z1f=true:=by kernel_rfl
theorem Z99:cQ 258 Qv0=true:=by kernel_rfl
theorem Zdx:cQ 259 Z2l=true:=by kernel_rfl
theorem Zdt:cQ 260 Z5x=true:=by kernel_rfl
theorem Z97:cQ 261 Qvh=true:=by kernel_rfl
theorem Z9f:cQ 262 Z6a=true:=by kernel_rfl
theorem Z76:cQ 263 Qwt=true:=by kernel_rfl
theorem Zct:cQ 264 Z27=true:=by kernel_rfl
theorem Z8q:cQ 265 Qzz=true:=by kernel_rfl
theorem Z8x:cQ 266 Z16=true:=by kernel_rfl
theorem Zad:cQ 267 Qxn=true:=by kernel_rfl
theorem Z9g:cQ 268 Z3o=true:=by kernel_rfl
theorem Zez:cQ 269 Qul=true:=by kernel_rfl
theorem Z96:cQ 270 Qtq=true:=by kernel_rfl
theorem Z8v:cQ 271 Z3c=true:=by kernel_rfl
theorem Z5k:cQ 272 Z00=true:=by kernel_rfl
theorem Qln:cQ 273 Qz9=true:=by kernel_rfl
theorem Qq0:cQ 274 Qxf=true:=by kernel_rfl
theorem Ql4:cQ 275 Z0t=true:=by kernel_rfl
theorem Qqq:cQ 276 Z48=true:=by kernel_rfl
theorem Zbk:cQ 287 Z2o=true:=by kernel_rfl
theorem Z7a:cQ 288 Qtx=true:=by kernel_rfl
theorem Zb4:cQ 289 Qug=true:=by kernel_rfl
theorem Zcu:cQ 290 Qxx=true:=by kernel_rfl
theorem Z84:cQ 291 Qud=true:=by kernel_rfl
theorem Za9:cQ 292 Qto=true:=by kernel_rfl
theorem Zem:cQ 293 Qup=true:=by kernel_rfl
theorem Zf4:cQ 294 Qy4=true:=by kernel_rfl
theorem Zbj:cQ 295 Z5f=true:=by kernel_rfl
theorem Zdw:cQ 296 Qwk=true:=by kernel_rfl
theorem Zak:cQ 297 Z02=true:=by kernel_rfl
theorem Zaw:cQ 298 Qz6=true:=by kernel_rfl
theorem Zdp:cQ 299 Qtf=true:=by kernel_rfl
theorem Z7h:cQ 300 Qwr=true:=by kernel_rfl
theorem Z91:cQ 301 Qtl=true:=by kernel_rfl
theorem Zec:cQ 302 Qx1=true:=by kernel_rfl
theorem Zdo:cQ 303 Qw4=true:=by kernel_rfl
theorem Zey:cQ 304 Z1k=true:=by kernel_rfl
theorem Zcx:cQ 305 Quk=true:=by kernel_rfl
end
end Go.Av
namespace Go.Av
noncomputable section
open Go.Proofs
set_option maxRecDepth 100000
theorem Zar:cQ 306 Qyx=true:=by kernel_rfl
theorem Z9b:cQ 307 Z01=true:=by kernel_rfl
theorem Zdm:cQ 308 Z1x=true:=by kernel_rfl
theorem Qyl:cQ 309 Z3v=true:=by kernel_rfl
theorem Zf1:cQ 310 Qv7=true:=by kernel_rfl
theorem Z8y:cQ 311 Qzd=true:=by kernel_rfl
theorem Z7u:cQ 312 Qyj=true:=by kernel_rfl
theorem Zf0:cQ 313 Z33=true:=by kernel_rfl
theorem Zc7:cQ 314 Z4u=true:=by kernel_rfl
theorem Zb7:cQ 315 Qyd=true:=by kernel_rfl
theorem Z82:cQ 316 Qu5=true:=by kernel_rfl
theorem Z7c:cQ 317 Z6b=true:=by kernel_rfl
theorem Zdb:cQ 318 Z5n=true:=by kernel_rfl
theorem Z78:cQ 319 Z0i=true:=by kernel_rfl
theorem Ze3:cQ 320 Qym=true:=by kernel_rfl
theorem Z1a:cQ 321 Qwd=true:=by kernel_rfl
theorem Z47:cQ 322 Z32=true:=by kernel_rfl
theorem Zeg:cQ 323 Qyf=true:=by kernel_rfl
theorem Qy1:cQ 324 Qtp=true:=by kernel_rfl
theorem Z6j:cQ 325 Qy9=true:=by kernel_rfl
theorem Z64:cQ 326 Z0n=true:=by kernel_rfl
theorem Qwm:cQ 327 Qwc=true:=by kernel_rfl
theorem Qyu:cQ 328 Qv2=true:=by kernel_rfl
theorem Z2u:cQ 329 Z5r=true:=by kernel_rfl
theorem Qun:cQ 330 Qy7=true:=by kernel_rfl
theorem Qyi:cQ 331 Z4v=true:=by kernel_rfl
theorem Qxk:cQ 332 Z2b=true:=by kernel_rfl
theorem Qv3:cQ 333 Z6d=true:=by kernel_rfl
theorem Qtm:cQ 334 Z3b=true:=by kernel_rfl
theorem Zcr:cQ 335 Que=true:=by kernel_rfl
theorem Zbq:cQ 336 Qxu=true:=by kernel_rfl
theorem Zep:cQ 337 Qyv=true:=by kernel_rfl
theorem Z7f:cQ 338 Z12=true:=by kernel_rfl
theorem Zex:cQ 339 Z2q=true:=by kernel_rfl
theorem Zam:cQ 340 Qzp=true:=by kernel_rfl
theorem Z6v:cQ 341 Qtz=true:=by kernel_rfl
theorem Z9x:cQ 342 Qx0=true:=by kernel_rfl
theorem Za1:cQ 343 Z3f=true:=by kernel_rfl
theorem Zav:cQ 344 Z5i=true:=by kernel_rfl
theorem Z81:cQ 345 Qts=true:=by kernel_rfl
theorem Z8c:cQ 346 Z3u=true:=by kernel_rfl
theorem Z8b:cQ 347 Qta=true:=by kernel_rfl
theorem Z9y:cQ 348 Z0k=true:=by kernel_rfl
theorem Zc0:cQ 349 Qyn=true:=by kernel_rfl
theorem Z9p:cQ 350 Z4i=true:=by kernel_rfl
theorem Zdv:cQ 351 Z43=true:=by kernel_rfl
end
end Go.Av
namespace Go.Av
noncomputable section
open Go.Proofs
set_option maxRecDepth 100000
theorem Zdh:cQ 352 Z4b=true:=by kernel_rfl
theorem Qxy:cQ 353 Qvf=true:=by kernel_rfl
theorem Zax:cQ 363 Qxj=true:=by kernel_rfl
theorem Zee:cQ 364 Z22=true:=by kernel_rfl
theorem Zb0:cQ 365 Z6r=true:=by kernel_rfl
theorem Ze0:cQ 366 Z5t=true:=by kernel_rfl
theorem Zcv:cQ 367 Qv4=true:=by kernel_rfl
theorem Z77:cQ 368 Qvs=true:=by kernel_rfl
theorem Z8j:cQ 369 Qve=true:=by kernel_rfl
theorem Zbd:cQ 370 Qzy=true:=by kernel_rfl
theorem Zbz:cQ 371 Z5u=true:=by kernel_rfl
theorem Z8u:cQ 372 Qwg=true:=by kernel_rfl
theorem Zd2:cQ 373 Z1z=true:=by kernel_rfl
theorem Zc5:cQ 374 Z5m=true:=by kernel_rfl
theorem Zed:cQ 375 Qvq=true:=by kernel_rfl
theorem Zc2:cQ 376 Qvo=true:=by kernel_rfl
theorem Z1i:cQ 377 Z4w=true:=by kernel_rfl
theorem Z87:cQ 378 Qxl=true:=by kernel_rfl
theorem Z7k:cQ 379 Z1g=true:=by kernel_rfl
theorem Z9o:cQ 380 Z2m=true:=by kernel_rfl
theorem Zbl:cQ 381 Z0p=true:=by kernel_rfl
theorem Z94:cQ 382 Z2d=true:=by kernel_rfl
theorem Zb5:cQ 383 Qwo=true:=by kernel_rfl
theorem Z8w:cQ 384 Z1d=true:=by kernel_rfl
theorem Qyq:cQ 385 Z2r=true:=by kernel_rfl
theorem Qzj:cQ 386 Qwf=true:=by kernel_rfl
theorem Qt5:cQ 387 Z1l=true:=by kernel_rfl
theorem Qsa:cQ 388 Qw6=true:=by kernel_rfl
theorem Z4c:cQ 389 Qwj=true:=by kernel_rfl
theorem Qs5:cQ 390 Z4f=true:=by kernel_rfl
theorem Z26:cQ 391 Z3t=true:=by kernel_rfl
theorem Qsh:cQ 392 Z4g=true:=by kernel_rfl
theorem Z8k:cQ 393 Z3m=true:=by kernel_rfl
theorem Qu4:cQ 394 Z5o=true:=by kernel_rfl
theorem Z2h:cQ 395 Qy8=true:=by kernel_rfl
theorem Z59:cQ 396 Z4r=true:=by kernel_rfl
theorem Z7z:cQ 397 Qyp=true:=by kernel_rfl
theorem Zb6:cQ 399 Z41=true:=by kernel_rfl
theorem Zeb:cQ 400 Qxw=true:=by kernel_rfl
theorem Z9l:cQ 401 Z1n=true:=by kernel_rfl
theorem Z80:cQ 402 Qtv=true:=by kernel_rfl
theorem Zbw:cQ 403 Z57=true:=by kernel_rfl
theorem Zch:cQ 404 Qwq=true:=by kernel_rfl
theorem Z7i:cQ 405 Z13=true:=by kernel_rfl
theorem Ze8:cQ 406 Z2c=true:=by kernel_rfl
theorem Z9u:cQ 407 Qwn=true:=by kernel_rfl
theorem Zcc:cQ 408 Qxo=true:=by kernel_rfl
theorem Zdu:cQ 409 Qx2=true:=by kernel_rfl
end
end Go.Av
namespace Go.Av
noncomputable section
open Go.Proofs
set_option maxRecDepth 100000
theorem Z7m:cQ 410 Z6f=true:=by kernel_rfl
theorem Zb2:cQ 411 Z44=true:=by kernel_rfl
theorem Z6x:cQ 412 Qxt=true:=by kernel_rfl
theorem Z71:cQ 413 Z0e=true:=by kernel_rfl
theorem Zdj:cQ 414 Qwz=true:=by kernel_rfl
theorem Zeo:cQ 425 Qvr=true:=by kernel_rfl
theorem Za5:cQ 426 Z2x=true:=by kernel_rfl
theorem Zck:cQ 427 Qy5=true:=by kernel_rfl
theorem Z9z:cQ 428 Quf=true:=by kernel_rfl
theorem Zdr:cQ 429 Qva=true:=by kernel_rfl
theorem Zd6:cQ 430 Z5v=true:=by kernel_rfl
theorem Zc4:cQ 431 Quw=true:=by kernel_rfl
theorem Z7g:cQ 432 Z2k=true:=by kernel_rfl
theorem Z70:cQ 433 Z5z=true:=by kernel_rfl
theorem Z7q:cQ 434 Qwi=true:=by kernel_rfl
theorem Zdi:cQ 435 Qu8=true:=by kernel_rfl
theorem Zbo:cQ 436 Z0a=true:=by kernel_rfl
theorem Za6:cQ 437 Z1w=true:=by kernel_rfl
theorem Zbr:cQ 438 Z66=true:=by kernel_rfl
theorem Zat:cQ 439 Qwa=true:=by kernel_rfl
theorem Z2j:cQ 440 Z4y=true:=by kernel_rfl
theorem Zdl:cQ 441 Qyz=true:=by kernel_rfl
theorem Qxe:cQ 442 Quq=true:=by kernel_rfl
theorem Zek:cQ 443 Z2a=true:=by kernel_rfl
theorem Zau:cQ 444 Z3g=true:=by kernel_rfl
theorem Zaj:cQ 445 Z65=true:=by kernel_rfl
theorem Z7r:cQ 446 Qxv=true:=by kernel_rfl
theorem Zdy:cQ 447 Qtd=true:=by kernel_rfl
theorem Zbn:cQ 448 Z1o=true:=by kernel_rfl
theorem Z6u:cQ 449 Z4q=true:=by kernel_rfl
theorem Z7y:cQ 450 Z4m=true:=by kernel_rfl
theorem Zbm:cQ 451 Z0x=true:=by kernel_rfl
theorem Zd3:cQ 452 Z4x=true:=by kernel_rfl
theorem Zef:cQ 453 Qya=true:=by kernel_rfl
theorem Zcn:cQ 454 Qx9=true:=by kernel_rfl
theorem Zcf:cQ 458 Z20=true:=by kernel_rfl
theorem Zan:cQ 459 Qzt=true:=by kernel_rfl
theorem Zd4:cQ 460 Qxp=true:=by kernel_rfl
theorem Zew:cQ 461 Qxm=true:=by kernel_rfl
theorem Z85:cQ 462 Qx4=true:=by kernel_rfl
theorem Z73:cQ 463 Qz3=true:=by kernel_rfl
theorem Z8p:cQ 464 Qu1=true:=by kernel_rfl
theorem Ze1:cQ 465 Z0y=true:=by kernel_rfl
theorem Zaz:cQ 466 Qu9=true:=by kernel_rfl
theorem Zds:cQ 467 Qyy=true:=by kernel_rfl
theorem Zce:cQ 468 Qy6=true:=by kernel_rfl
theorem Zag:cQ 469 Z3s=true:=by kernel_rfl
theorem Z9v:cQ 470 Z63=true:=by kernel_rfl
theorem Z6s:cQ 471 Qvz=true:=by kernel_rfl
theorem Zcm:cQ 472 Qyc=true:=by kernel_rfl
theorem Qzr:cQ 473 Z5e=true:=by kernel_rfl
theorem Zbu:cQ 475 Qvm=true:=by kernel_rfl
theorem Zaa:cQ 476 Qv5=true:=by kernel_rfl
theorem Zbx:cQ 477 Qy2=true:=by kernel_rfl
theorem Zdz:cQ 478 Z25=true:=by kernel_rfl
theorem Z8n:cQ 479 Qy0=true:=by kernel_rfl
theorem Zcz:cQ 480 Quj=true:=by kernel_rfl
theorem Zb8:cQ 481 Z3h=true:=by kernel_rfl
theorem Z9j:cQ 482 Qtn=true:=by kernel_rfl
theorem Zc3:cQ 483 Z0h=true:=by kernel_rfl
theorem Zc9:cQ 484 Z36=true:=by kernel_rfl
theorem Z79:cQ 485 Qx6=true:=by kernel_rfl
theorem Z6z:cQ 486 Z3l=true:=by kernel_rfl
theorem Z7s:cQ 487 Z3r=true:=by kernel_rfl
theorem Z8o:cQ 488 Z0l=true:=by kernel_rfl
theorem Z98:cQ 489 Z0f=true:=by kernel_rfl
theorem Zdd:cQ 490 Z1e=true:=by kernel_rfl
end
end Go.Av
namespace Go.Av
noncomputable section
open Go.Proofs
set_option maxRecDepth 100000
theorem Zea:cQ 491 Qxb=true:=by kernel_rfl
theorem Z8h:cQ 492 Z3e=true:=by kernel_rfl
theorem Z7o:cQ 495 Qxh=true:=by kernel_rfl
theorem Zbi:cQ 496 Z24=true:=by kernel_rfl
theorem Zdk:cQ 497 Qtg=true:=by kernel_rfl
theorem Zcp:cQ 498 Z5j=true:=by kernel_rfl
theorem Z92:cQ 499 Qz4=true:=by kernel_rfl
theorem Zbc:cQ 500 Qz2=true:=by kernel_rfl
theorem Zci:cQ 501 Z6o=true:=by kernel_rfl
theorem Z6w:cQ 502 Z3j=true:=by kernel_rfl
theorem Zbs:cQ 503 Qz5=true:=by kernel_rfl
theorem Zbh:cQ 504 Z17=true:=by kernel_rfl
theorem Zco:cQ 505 Z5s=true:=by kernel_rfl
theorem Zbe:cQ 506 Z1u=true:=by kernel_rfl
theorem Zai:cQ 507 Z3i=true:=by kernel_rfl
theorem Zbf:cQ 508 Z5y=true:=by kernel_rfl
theorem Zda:cQ 509 Qvy=true:=by kernel_rfl
theorem Z7j:cQ 510 Qxr=true:=by kernel_rfl
theorem Z7v:cQ 511 Z1b=true:=by kernel_rfl
theorem Zeq:cQ 512 Z5p=true:=by kernel_rfl
theorem Ze4:cQ 513 Z53=true:=by kernel_rfl
theorem Z74:cQ 514 Z6l=true:=by kernel_rfl
theorem Z8i:cQ 515 Z42=true:=by kernel_rfl
theorem Z9s:cQ 516 Qvu=true:=by kernel_rfl
theorem Z8a:cQ 517 Qwy=true:=by kernel_rfl
theorem Za0:cQ 518 Z3k=true:=by kernel_rfl
theorem Z7d:cQ 519 Z61=true:=by kernel_rfl
end
end Go.Av
namespace Go.Av
noncomputable section
open Go.Proofs
set_option maxRecDepth 100000
theorem Ze7:cQ 520 Qus=true:=by kernel_rfl
theorem Z86:cQ 521 Z62=true:=by kernel_rfl
theorem Zaf:cQ 522 Z3w=true:=by kernel_rfl
theorem Zdf:cQ 523 Z0b=true:=by kernel_rfl
theorem Z95:cQ 524 Qvk=true:=by kernel_rfl
theorem Z9a:cQ 525 Z2n=true:=by kernel_rfl
theorem Z7p:cQ 526 Z55=true:=by kernel_rfl
theorem Zbv:cQ 527 Z14=true:=by kernel_rfl
theorem Z8d:cQ 529 Qw7=true:=by kernel_rfl
theorem Zc1:cQ 530 Z4k=true:=by kernel_rfl
theorem Z8g:cQ 531 Qvg=true:=by kernel_rfl
theorem Zbp:cQ 532 Qzg=true:=by kernel_rfl
theorem Zc8:cQ 533 Z45=true:=by kernel_rfl
end
end Go.Av

