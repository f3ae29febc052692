/- Part of the proof of CrossRound: for every input the law returns true; no condition. -/
import Derived.Test.YtaokaobiihpkbaaGreatDoorCode1
import Derived.Test.YtaokaobiihpkbaaGreatDoorAvChk
import Derived.KernelRfl
import Derived.Test.YtaokaobiihpkbaaGreatDoorProg
set_option linter.all false
namespace Go.Av
noncomputable section
open Go.Proofs
set_option maxRecDepth 100000
abbrev cQ:=Q0y Tryz.prog
theorem k4:cQ 4 c4=true:=by kernel_rfl
theorem k6:cQ 6 c6=true:=by kernel_rfl
theorem k7:cQ 7 c7=true:=by kernel_rfl
theorem k9:cQ 9 c9=true:=by kernel_rfl
theorem k10:cQ 10 c10=true:=by kernel_rfl
theorem k11:cQ 11 c11=true:=by kernel_rfl
theorem k12:cQ 12 c12=true:=by kernel_rfl
theorem k15:cQ 15 c15=true:=by kernel_rfl
theorem k16:cQ 16 c16=true:=by kernel_rfl
theorem k17:cQ 17 c17=true:=by kernel_rfl
theorem k18:cQ 18 c18=true:=by kernel_rfl
theorem k23:cQ 23 c23=true:=by kernel_rfl
theorem k24:cQ 24 c24=true:=by kernel_rfl
theorem k25:cQ 25 c25=true:=by kernel_rfl
theorem k26:cQ 26 c26=true:=by kernel_rfl
theorem k27:cQ 27 c27=true:=by kernel_rfl
theorem k28:cQ 28 c28=true:=by kernel_rfl
theorem k29:cQ 29 c29=true:=by kernel_rfl
theorem k30:cQ 30 c30=true:=by kernel_rfl
theorem k31:cQ 31 c31=true:=by kernel_rfl
theorem k32:cQ 32 c32=true:=by kernel_rfl
theorem k33:cQ 33 c33=true:=by kernel_rfl
theorem k34:cQ 34 c34=true:=by kernel_rfl
theorem k35:cQ 35 c35=true:=by kernel_rfl
end
end Go.Av
namespace Go.Av
noncomputable section
open Go.Proofs
set_option maxRecDepth 100000
theorem k36:cQ 36 c36=true:=by kernel_rfl
theorem k38:cQ 38 c38=true:=by kernel_rfl
theorem k39:cQ 39 c39=true:=by kernel_rfl
theorem k40:cQ 40 c40=true:=by kernel_rfl
theorem k41:cQ 41 c41=true:=by kernel_rfl
theorem k42:cQ 42 c42=true:=by kernel_rfl
theorem k45:cQ 45 c45=true:=by kernel_rfl
theorem k46:cQ 46 c46=true:=by kernel_rfl
theorem k47:cQ 47 c47=true:=by kernel_rfl
theorem k48:cQ 48 c48=true:=by kernel_rfl
theorem k49:cQ 49 c49=true:=by kernel_rfl
theorem k50:cQ 50 c50=true:=by kernel_rfl
theorem k51:cQ 51 c51=true:=by kernel_rfl
theorem k52:cQ 52 c52=true:=by kernel_rfl
theorem k53:cQ 53 c53=true:=by kernel_rfl
theorem k54:cQ 54 c54=true:=by kernel_rfl
theorem k55:cQ 55 c55=true:=by kernel_rfl
theorem k56:cQ 56 c56=true:=by kernel_rfl
theorem k57:cQ 57 c57=true:=by kernel_rfl
theorem k58:cQ 58 c58=true:=by kernel_rfl
theorem k59:cQ 59 c59=true:=by kernel_rfl
theorem k60:cQ 60 c60=true:=by kernel_rfl
theorem k61:cQ 61 c61=true:=by kernel_rfl
theorem k62:cQ 62 c62=true:=by kernel_rfl
theorem k63:cQ 63 c63=true:=by kernel_rfl
theorem k64:cQ 64 c64=true:=by kernel_rfl
theorem k65:cQ 65 c65=true:=by kernel_rfl
theorem k66:cQ 66 c66=true:=by kernel_rfl
theorem k67:cQ 67 c67=true:=by kernel_rfl
theorem k68:cQ 68 c68=true:=by kernel_rfl
theorem k69:cQ 69 c69=true:=by kernel_rfl
theorem k70:cQ 70 c70=true:=by kernel_rfl
theorem k71:cQ 71 c71=true:=by kernel_rfl
theorem k72:cQ 72 c72=true:=by kernel_rfl
theorem k73:cQ 73 c73=true:=by kernel_rfl
theorem k74:cQ 74 c74=true:=by kernel_rfl
theorem k75:cQ 75 c75=true:=by kernel_rfl
theorem k76:cQ 76 c76=true:=by kernel_rfl
theorem k77:cQ 77 c77=true:=by kernel_rfl
theorem k78:cQ 78 c78=true:=by kernel_rfl
theorem k80:cQ 80 c80=true:=by kernel_rfl
theorem k81:cQ 81 c81=true:=by kernel_rfl
theorem k82:cQ 82 c82=true:=by kernel_rfl
theorem k83:cQ 83 c83=true:=by kernel_rfl
theorem k84:cQ 84 c84=true:=by kernel_rfl
theorem k85:cQ 85 c85=true:=by kernel_rfl
theorem k86:cQ 86 c86=true:=by kernel_rfl
theorem k87:cQ 87 c87=true:=by kernel_rfl
theorem k89:cQ 89 c89=true:=by kernel_rfl
theorem k90:cQ 90 c90=true:=by kernel_rfl
theorem k91:cQ 91 c91=true:=by kernel_rfl
theorem k92:cQ 92 c92=true:=by kernel_rfl
theorem k93:cQ 93 c93=true:=by kernel_rfl
theorem k94:cQ 94 c94=true:=by kernel_rfl
theorem k95:cQ 95 c95=true:=by kernel_rfl
theorem k96:cQ 96 c96=true:=by kernel_rfl
theorem k97:cQ 97 c97=true:=by kernel_rfl
theorem k98:cQ 98 c98=true:=by kernel_rfl
theorem k99:cQ 99 c99=true:=by kernel_rfl
theorem Z4g:cQ 100 Z5u=true:=by kernel_rfl
theorem Z3j:cQ 101 Z8z=true:=by kernel_rfl
end
end Go.Av
namespace Go.Av
noncomputable section
open Go.Proofs
set_option maxRecDepth 100000
theorem Qyr:cQ 102 Zc4=true:=by kernel_rfl
theorem Qyx:cQ 103 Za9=true:=by kernel_rfl
theorem Z35:cQ 104 Qqi=true:=by kernel_rfl
theorem Z38:cQ 105 Za8=true:=by kernel_rfl
theorem Z8i:cQ 106 Z5y=true:=by kernel_rfl
theorem Z17:cQ 107 Z2m=true:=by kernel_rfl
theorem Zfk:cQ 108 Zbk=true:=by kernel_rfl
theorem Zfa:cQ 109 Z73=true:=by kernel_rfl
theorem Zct:cQ 110 Zbj=true:=by kernel_rfl
theorem Zdu:cQ 111 Z12=true:=by kernel_rfl
theorem Zgp:cQ 112 Zbs=true:=by kernel_rfl
theorem Z84:cQ 113 Z2z=true:=by kernel_rfl
theorem Z3b:cQ 114 Zb3=true:=by kernel_rfl
theorem Zfi:cQ 115 Zat=true:=by kernel_rfl
theorem Z27:cQ 116 Z5l=true:=by kernel_rfl
theorem Zig:cQ 117 Z55=true:=by kernel_rfl
theorem Z8x:cQ 118 Z3s=true:=by kernel_rfl
theorem Z4t:cQ 119 Zbx=true:=by kernel_rfl
theorem Z4y:cQ 120 Z49=true:=by kernel_rfl
theorem Z4h:cQ 121 Z42=true:=by kernel_rfl
theorem Z9j:cQ 122 Z2l=true:=by kernel_rfl
theorem Z7q:cQ 123 Z5m=true:=by kernel_rfl
theorem Z6c:cQ 124 Z2s=true:=by kernel_rfl
theorem Z3c:cQ 125 Z44=true:=by kernel_rfl
theorem Zd0:cQ 126 Z6g=true:=by kernel_rfl
theorem Z9g:cQ 127 Z2c=true:=by kernel_rfl
theorem Qzi:cQ 128 Z8o=true:=by kernel_rfl
theorem Zar:cQ 129 Zbn=true:=by kernel_rfl
theorem Z3r:cQ 130 Z56=true:=by kernel_rfl
theorem Z9b:cQ 131 Z72=true:=by kernel_rfl
theorem Z8j:cQ 132 Zbe=true:=by kernel_rfl
theorem Z8m:cQ 133 Z3o=true:=by kernel_rfl
theorem Zb5:cQ 134 Z3a=true:=by kernel_rfl
theorem Zju:cQ 135 Z0i=true:=by kernel_rfl
theorem Zaj:cQ 136 Z2f=true:=by kernel_rfl
theorem Zdh:cQ 137 Z7s=true:=by kernel_rfl
end
end Go.Av
namespace Go.Av
noncomputable section
open Go.Proofs
set_option maxRecDepth 100000
theorem Zcy:cQ 138 Z1t=true:=by kernel_rfl
theorem Zji:cQ 139 Z8a=true:=by kernel_rfl
theorem Zhn:cQ 140 Z6j=true:=by kernel_rfl
theorem Zjq:cQ 141 Z8h=true:=by kernel_rfl
theorem Zjw:cQ 142 Z92=true:=by kernel_rfl
theorem Zjg:cQ 143 Zbf=true:=by kernel_rfl
theorem Z39:cQ 144 Z85=true:=by kernel_rfl
theorem Zbp:cQ 145 Z86=true:=by kernel_rfl
theorem Z1w:cQ 146 Z5v=true:=by kernel_rfl
theorem Z9h:cQ 147 Za2=true:=by kernel_rfl
theorem Z9y:cQ 148 Zbi=true:=by kernel_rfl
theorem Zd8:cQ 149 Z6h=true:=by kernel_rfl
theorem Zgy:cQ 150 Z0h=true:=by kernel_rfl
theorem Zeh:cQ 151 Z6i=true:=by kernel_rfl
theorem Zdy:cQ 152 Z2n=true:=by kernel_rfl
theorem Zbq:cQ 153 Z93=true:=by kernel_rfl
theorem Z13:cQ 154 Z30=true:=by kernel_rfl
theorem Z2v:cQ 155 Z4a=true:=by kernel_rfl
theorem Z57:cQ 156 Z1y=true:=by kernel_rfl
theorem Zcs:cQ 157 Zbu=true:=by kernel_rfl
theorem Z18:cQ 158 Z1n=true:=by kernel_rfl
theorem Z66:cQ 159 Z96=true:=by kernel_rfl
theorem Z1h:cQ 160 Z3u=true:=by kernel_rfl
theorem Z2i:cQ 161 Z0j=true:=by kernel_rfl
theorem Z77:cQ 162 Z3n=true:=by kernel_rfl
theorem Z14:cQ 163 Z4p=true:=by kernel_rfl
theorem Z2w:cQ 164 Z9r=true:=by kernel_rfl
theorem Z2k:cQ 165 Z16=true:=by kernel_rfl
theorem Zam:cQ 166 Z0k=true:=by kernel_rfl
theorem Z7b:cQ 167 Z3t=true:=by kernel_rfl
theorem Zch:cQ 168 Z8g=true:=by kernel_rfl
theorem Z9i:cQ 169 Z9e=true:=by kernel_rfl
theorem Z4m:cQ 170 Z28=true:=by kernel_rfl
theorem Z6s:cQ 171 Z6m=true:=by kernel_rfl
theorem Ze7:cQ 172 Zb9=true:=by kernel_rfl
theorem Ziw:cQ 173 Z9s=true:=by kernel_rfl
theorem Zgg:cQ 174 Zah=true:=by kernel_rfl
theorem Zis:cQ 175 Z6n=true:=by kernel_rfl
theorem Zeg:cQ 176 Z5t=true:=by kernel_rfl
theorem Zeq:cQ 177 Z1c=true:=by kernel_rfl
theorem Zio:cQ 178 Z9o=true:=by kernel_rfl
theorem Zhy:cQ 179 Z6z=true:=by kernel_rfl
end
end Go.Av
namespace Go.Av
noncomputable section
open Go.Proofs
set_option maxRecDepth 100000
theorem Zk1:cQ 180 Z8k=true:=by kernel_rfl
theorem Z1e:cQ 181 Z1z=true:=by kernel_rfl
theorem Z5g:cQ 182 Zab=true:=by kernel_rfl
theorem Z7h:cQ 183 Z3k=true:=by kernel_rfl
theorem Zkf:cQ 184 Zcm=true:=by kernel_rfl
theorem Ze4:cQ 186 Z45=true:=by kernel_rfl
theorem Zhv:cQ 187 Za5=true:=by kernel_rfl
theorem Zd6:cQ 188 Z2o=true:=by kernel_rfl
theorem Zje:cQ 189 Z8u=true:=by kernel_rfl
theorem Zh1:cQ 190 Zbm=true:=by kernel_rfl
theorem Zek:cQ 191 Z31=true:=by kernel_rfl
theorem Zdn:cQ 192 Zc5=true:=by kernel_rfl
theorem Zkj:cQ 193 Zcp=true:=by kernel_rfl
theorem Z4q:cQ 194 Z9f=true:=by kernel_rfl
theorem Zaz:cQ 195 Z5q=true:=by kernel_rfl
theorem Z63:cQ 196 Z11=true:=by kernel_rfl
theorem Z32:cQ 197 Z54=true:=by kernel_rfl
theorem Zco:cQ 198 Z5o=true:=by kernel_rfl
theorem Zgd:cQ 199 Z8e=true:=by kernel_rfl
theorem Zjn:cQ 200 Z1p=true:=by kernel_rfl
theorem Zin:cQ 201 Z61=true:=by kernel_rfl
theorem Zhj:cQ 202 Zbb=true:=by kernel_rfl
theorem Ze3:cQ 203 Zba=true:=by kernel_rfl
theorem Zde:cQ 204 Z20=true:=by kernel_rfl
theorem Zdd:cQ 205 Z59=true:=by kernel_rfl
theorem Zfy:cQ 206 Zb2=true:=by kernel_rfl
theorem Z0n:cQ 207 Z24=true:=by kernel_rfl
theorem Zhq:cQ 208 Z29=true:=by kernel_rfl
theorem Zkc:cQ 209 Z7c=true:=by kernel_rfl
theorem Zhp:cQ 210 Zcg=true:=by kernel_rfl
theorem Zj2:cQ 211 Z9u=true:=by kernel_rfl
theorem Zev:cQ 212 Zax=true:=by kernel_rfl
theorem Zi4:cQ 213 Z95=true:=by kernel_rfl
theorem Ziv:cQ 214 Z4o=true:=by kernel_rfl
theorem Zih:cQ 215 Z94=true:=by kernel_rfl
theorem Zg6:cQ 216 Z9k=true:=by kernel_rfl
theorem Z4b:cQ 217 Z0l=true:=by kernel_rfl
theorem Zaa:cQ 218 Z7l=true:=by kernel_rfl
theorem Z75:cQ 219 Z0o=true:=by kernel_rfl
theorem Z8v:cQ 220 Zau=true:=by kernel_rfl
theorem Zb4:cQ 221 Z6x=true:=by kernel_rfl
theorem Zb0:cQ 222 Zbg=true:=by kernel_rfl
theorem Z97:cQ 223 Z3p=true:=by kernel_rfl
theorem Z9w:cQ 224 Z15=true:=by kernel_rfl
theorem Ziy:cQ 225 Zbo=true:=by kernel_rfl
theorem Zdw:cQ 226 Zaw=true:=by kernel_rfl
end
end Go.Av
namespace Go.Av
noncomputable section
open Go.Proofs
set_option maxRecDepth 100000
theorem Zd5:cQ 228 Zbv=true:=by kernel_rfl
theorem Zh4:cQ 229 Z40=true:=by kernel_rfl
theorem Zdf:cQ 230 Z5r=true:=by kernel_rfl
theorem Zgu:cQ 231 Z74=true:=by kernel_rfl
theorem Zg5:cQ 232 Z41=true:=by kernel_rfl
theorem Zdt:cQ 233 Z1i=true:=by kernel_rfl
theorem Zh5:cQ 234 Z83=true:=by kernel_rfl
theorem Ze8:cQ 235 Z69=true:=by kernel_rfl
theorem Zkb:cQ 236 Zcl=true:=by kernel_rfl
theorem Ze9:cQ 237 Z47=true:=by kernel_rfl
theorem Ze1:cQ 238 Zaq=true:=by kernel_rfl
theorem Zgr:cQ 239 Zbz=true:=by kernel_rfl
theorem Zf3:cQ 240 Z7m=true:=by kernel_rfl
theorem Zee:cQ 241 Z21=true:=by kernel_rfl
theorem Zez:cQ 242 Z9c=true:=by kernel_rfl
theorem Zd3:cQ 243 Z8p=true:=by kernel_rfl
theorem Zed:cQ 244 Zaf=true:=by kernel_rfl
theorem Zj9:cQ 245 Z50=true:=by kernel_rfl
theorem Zha:cQ 246 Z68=true:=by kernel_rfl
theorem Zfv:cQ 247 Z0z=true:=by kernel_rfl
theorem Zce:cQ 248 Zc9=true:=by kernel_rfl
theorem Z2e:cQ 249 Zag=true:=by kernel_rfl
theorem Z2q:cQ 250 Za1=true:=by kernel_rfl
theorem Z4u:cQ 251 Z0v=true:=by kernel_rfl
theorem Zfl:cQ 252 Zae=true:=by kernel_rfl
theorem Zjk:cQ 253 Z5b=true:=by kernel_rfl
theorem Zi9:cQ 254 Z0p=true:=by kernel_rfl
theorem Zjc:cQ 255 Z3y=true:=by kernel_rfl
theorem Zil:cQ 256 Z0q=true:=by kernel_rfl
theorem Zie:cQ 257 Z4z=true:=by kernel_rfl
theorem Zfx:cQ 258 Z6a=true:=by kernel_rfl
theorem Zgx:cQ 259 Z98=true:=by kernel_rfl
theorem Zft:cQ 260 Zcc=true:=by kernel_rfl
theorem Zg1:cQ 261 Z51=true:=by kernel_rfl
theorem Zdj:cQ 262 Z5i=true:=by kernel_rfl
theorem Zfr:cQ 263 Z9x=true:=by kernel_rfl
end
end Go.Av
namespace Go.Av
noncomputable section
open Go.Proofs
set_option maxRecDepth 100000
theorem Zd7:cQ 264 Z62=true:=by kernel_rfl
theorem Zdb:cQ 265 Z64=true:=by kernel_rfl
theorem Zdr:cQ 266 Z99=true:=by kernel_rfl
theorem Zir:cQ 267 Z1j=true:=by kernel_rfl
theorem Zk9:cQ 268 Z6v=true:=by kernel_rfl
theorem Zid:cQ 269 Zcn=true:=by kernel_rfl
theorem Zjz:cQ 270 Z9p=true:=by kernel_rfl
theorem Qik:cQ 271 Z4w=true:=by kernel_rfl
theorem Zk5:cQ 272 Zak=true:=by kernel_rfl
theorem Zik:cQ 273 Za4=true:=by kernel_rfl
theorem Zgl:cQ 274 Z48=true:=by kernel_rfl
theorem Zii:cQ 275 Z6o=true:=by kernel_rfl
theorem Z8f:cQ 276 Z6q=true:=by kernel_rfl
theorem Zf7:cQ 277 Z9a=true:=by kernel_rfl
theorem Zdl:cQ 278 Z89=true:=by kernel_rfl
theorem Zkn:cQ 279 Z7x=true:=by kernel_rfl
theorem Zby:cQ 280 Z1s=true:=by kernel_rfl
theorem Z7r:cQ 281 Z7z=true:=by kernel_rfl
theorem Zav:cQ 282 Z2d=true:=by kernel_rfl
theorem Zjx:cQ 283 Z5s=true:=by kernel_rfl
theorem Zfe:cQ 284 Z82=true:=by kernel_rfl
theorem Zeo:cQ 285 Z5z=true:=by kernel_rfl
theorem Zdm:cQ 286 Z9t=true:=by kernel_rfl
theorem Zgf:cQ 287 Z7p=true:=by kernel_rfl
theorem Zi6:cQ 288 Z9m=true:=by kernel_rfl
theorem Zf9:cQ 289 Za7=true:=by kernel_rfl
theorem Zdp:cQ 290 Z71=true:=by kernel_rfl
theorem Zg7:cQ 291 Z2t=true:=by kernel_rfl
theorem Zew:cQ 292 Z2p=true:=by kernel_rfl
theorem Zen:cQ 293 Z6u=true:=by kernel_rfl
theorem Zhx:cQ 294 Zbw=true:=by kernel_rfl
theorem Zgc:cQ 295 Z3z=true:=by kernel_rfl
theorem Zdv:cQ 296 Z3w=true:=by kernel_rfl
theorem Zim:cQ 297 Zbd=true:=by kernel_rfl
theorem Z0s:cQ 298 Z3h=true:=by kernel_rfl
theorem Z88:cQ 299 Z52=true:=by kernel_rfl
theorem Zhd:cQ 300 Qqk=true:=by kernel_rfl
theorem Zf2:cQ 301 Z5h=true:=by kernel_rfl
theorem Qys:cQ 302 Zcr=true:=by kernel_rfl
theorem Zhe:cQ 303 Z3e=true:=by kernel_rfl
theorem Zep:cQ 304 Za0=true:=by kernel_rfl
theorem Zdz:cQ 305 Zbr=true:=by kernel_rfl
theorem Zej:cQ 306 Z6f=true:=by kernel_rfl
theorem Zdq:cQ 307 Zac=true:=by kernel_rfl
theorem Zgk:cQ 308 Zc0=true:=by kernel_rfl
theorem Zfo:cQ 309 Z8q=true:=by kernel_rfl
theorem Z2j:cQ 310 Z3d=true:=by kernel_rfl
theorem Qwp:cQ 311 Z0w=true:=by kernel_rfl
theorem Ziq:cQ 312 Z6b=true:=by kernel_rfl
theorem Zdx:cQ 313 Z6w=true:=by kernel_rfl
theorem Zea:cQ 314 Z8w=true:=by kernel_rfl
theorem Zhr:cQ 315 Z4c=true:=by kernel_rfl
theorem Zjh:cQ 316 Zck=true:=by kernel_rfl
theorem Zi5:cQ 317 Z4n=true:=by kernel_rfl
theorem Zif:cQ 318 Z8y=true:=by kernel_rfl
theorem Zip:cQ 319 Z7n=true:=by kernel_rfl
end
end Go.Av
namespace Go.Av
noncomputable section
open Go.Proofs
set_option maxRecDepth 100000
theorem Zhh:cQ 320 Zca=true:=by kernel_rfl
theorem Zeu:cQ 321 Z1m=true:=by kernel_rfl
theorem Zcv:cQ 322 Z3l=true:=by kernel_rfl
theorem Zit:cQ 323 Z4j=true:=by kernel_rfl
theorem Zjs:cQ 324 Z4d=true:=by kernel_rfl
theorem Zj3:cQ 325 Zc2=true:=by kernel_rfl
theorem Zi2:cQ 326 Z1q=true:=by kernel_rfl
theorem Zf6:cQ 327 Z0g=true:=by kernel_rfl
theorem Zfu:cQ 328 Z65=true:=by kernel_rfl
theorem Ze5:cQ 329 Z0r=true:=by kernel_rfl
theorem Qyv:cQ 330 Z6p=true:=by kernel_rfl
theorem Z22:cQ 331 Z43=true:=by kernel_rfl
theorem Zdc:cQ 332 Z8s=true:=by kernel_rfl
theorem Zg4:cQ 333 Z7t=true:=by kernel_rfl
theorem Zff:cQ 334 Zci=true:=by kernel_rfl
theorem Zga:cQ 335 Z3g=true:=by kernel_rfl
theorem Zfp:cQ 336 Z9d=true:=by kernel_rfl
theorem Ze0:cQ 337 Z1g=true:=by kernel_rfl
theorem Zh9:cQ 338 Zcb=true:=by kernel_rfl
theorem Zj6:cQ 339 Z4l=true:=by kernel_rfl
theorem Zjd:cQ 340 Z9z=true:=by kernel_rfl
theorem Zes:cQ 341 Z58=true:=by kernel_rfl
theorem Zjv:cQ 342 Zc3=true:=by kernel_rfl
theorem Qws:cQ 343 Z10=true:=by kernel_rfl
theorem Zec:cQ 344 Z3m=true:=by kernel_rfl
theorem Zkg:cQ 345 Zbt=true:=by kernel_rfl
theorem Zh2:cQ 346 Z6t=true:=by kernel_rfl
theorem Zdo:cQ 347 Z6r=true:=by kernel_rfl
theorem Zib:cQ 348 Z0m=true:=by kernel_rfl
theorem Zk8:cQ 349 Z67=true:=by kernel_rfl
theorem Zhu:cQ 350 Zb1=true:=by kernel_rfl
theorem Zgm:cQ 351 Z5d=true:=by kernel_rfl
theorem Zki:cQ 352 Z79=true:=by kernel_rfl
theorem Zeb:cQ 353 Z5e=true:=by kernel_rfl
theorem Zi0:cQ 354 Z4s=true:=by kernel_rfl
theorem Zj4:cQ 355 Z9l=true:=by kernel_rfl
theorem Zj7:cQ 356 Z7v=true:=by kernel_rfl
theorem Zia:cQ 357 Z53=true:=by kernel_rfl
theorem Zhf:cQ 358 Z4e=true:=by kernel_rfl
theorem Zda:cQ 359 Z1a=true:=by kernel_rfl
theorem Zja:cQ 360 Zcd=true:=by kernel_rfl
theorem Ze2:cQ 361 Zad=true:=by kernel_rfl
theorem Zfc:cQ 362 Za6=true:=by kernel_rfl
theorem Zfm:cQ 363 Z9v=true:=by kernel_rfl
theorem Zgz:cQ 364 Z8t=true:=by kernel_rfl
theorem Zke:cQ 365 Z5j=true:=by kernel_rfl
theorem Zh6:cQ 366 Z4v=true:=by kernel_rfl
theorem Zjb:cQ 367 Z5a=true:=by kernel_rfl
theorem Zds:cQ 368 Zal=true:=by kernel_rfl
theorem Zex:cQ 369 Z3v=true:=by kernel_rfl
theorem Zjf:cQ 370 Z9q=true:=by kernel_rfl
end
end Go.Av
namespace Go.Av
noncomputable section
open Go.Proofs
set_option maxRecDepth 100000
theorem Zk0:cQ 371 Zb8=true:=by kernel_rfl
theorem Zgj:cQ 372 Z1l=true:=by kernel_rfl
theorem Zey:cQ 373 Z7d=true:=by kernel_rfl
theorem Zjr:cQ 374 Z34=true:=by kernel_rfl
theorem Zij:cQ 375 Zao=true:=by kernel_rfl
theorem Zjt:cQ 376 Z25=true:=by kernel_rfl
theorem Zg2:cQ 377 Zc7=true:=by kernel_rfl
theorem Zf0:cQ 378 Z5p=true:=by kernel_rfl
theorem Zf5:cQ 379 Z7j=true:=by kernel_rfl
theorem Zgb:cQ 380 Z0t=true:=by kernel_rfl
theorem Zi3:cQ 381 Z7k=true:=by kernel_rfl
theorem Zh7:cQ 382 Z76=true:=by kernel_rfl
theorem Zgh:cQ 383 Z2u=true:=by kernel_rfl
theorem Zjj:cQ 384 Zap=true:=by kernel_rfl
theorem Zgv:cQ 385 Zcj=true:=by kernel_rfl
theorem Zdk:cQ 386 Z9n=true:=by kernel_rfl
theorem Zfb:cQ 387 Z87=true:=by kernel_rfl
theorem Zi8:cQ 388 Z23=true:=by kernel_rfl
theorem Zk4:cQ 389 Z7y=true:=by kernel_rfl
theorem Zh3:cQ 390 Zbl=true:=by kernel_rfl
theorem Zhm:cQ 391 Zai=true:=by kernel_rfl
theorem Zf1:cQ 392 Z4x=true:=by kernel_rfl
theorem Zi1:cQ 393 Z3i=true:=by kernel_rfl
theorem Zj8:cQ 394 Z2b=true:=by kernel_rfl
theorem Zhi:cQ 395 Z8d=true:=by kernel_rfl
theorem Zfq:cQ 396 Zbh=true:=by kernel_rfl
theorem Zjy:cQ 397 Z37=true:=by kernel_rfl
theorem Zg0:cQ 398 Z70=true:=by kernel_rfl
theorem Zk7:cQ 399 Zcq=true:=by kernel_rfl
theorem Zei:cQ 400 Z1k=true:=by kernel_rfl
theorem Zix:cQ 401 Z1d=true:=by kernel_rfl
theorem Zfg:cQ 402 Z5x=true:=by kernel_rfl
theorem Zel:cQ 403 Z5n=true:=by kernel_rfl
theorem Zho:cQ 404 Za3=true:=by kernel_rfl
theorem Zgn:cQ 405 Z2y=true:=by kernel_rfl
theorem Zet:cQ 406 Z5k=true:=by kernel_rfl
theorem Zht:cQ 407 Z4i=true:=by kernel_rfl
theorem Zcz:cQ 408 Z3q=true:=by kernel_rfl
end
end Go.Av
namespace Go.Av
noncomputable section
open Go.Proofs
set_option maxRecDepth 100000
theorem Zgo:cQ 409 Z0y=true:=by kernel_rfl
theorem Zer:cQ 410 Z6y=true:=by kernel_rfl
theorem Zjl:cQ 411 Z7w=true:=by kernel_rfl
theorem Zhl:cQ 412 Zas=true:=by kernel_rfl
theorem Zhc:cQ 413 Z7u=true:=by kernel_rfl
theorem Zfs:cQ 414 Z4r=true:=by kernel_rfl
theorem Zd1:cQ 415 Z7a=true:=by kernel_rfl
theorem Zd4:cQ 416 Z1f=true:=by kernel_rfl
theorem Zhw:cQ 417 Z3f=true:=by kernel_rfl
theorem Zj0:cQ 418 Zcf=true:=by kernel_rfl
theorem Zkl:cQ 419 Z7f=true:=by kernel_rfl
theorem Zjp:cQ 420 Z2g=true:=by kernel_rfl
theorem Ziu:cQ 421 Z0u=true:=by kernel_rfl
theorem Zge:cQ 422 Z5f=true:=by kernel_rfl
theorem Zjo:cQ 423 Z91=true:=by kernel_rfl
theorem Ziz:cQ 424 Z8b=true:=by kernel_rfl
theorem Zd9:cQ 426 Z8n=true:=by kernel_rfl
theorem Zd2:cQ 429 Z8r=true:=by kernel_rfl
theorem Zgi:cQ 430 Z8l=true:=by kernel_rfl
theorem Zhb:cQ 431 Z6l=true:=by kernel_rfl
theorem Zfn:cQ 432 Z6e=true:=by kernel_rfl
theorem Zfw:cQ 433 Z2r=true:=by kernel_rfl
theorem Zgs:cQ 434 Z4k=true:=by kernel_rfl
theorem Zkd:cQ 435 Z7g=true:=by kernel_rfl
theorem Zcu:cQ 436 Z46=true:=by kernel_rfl
theorem Zhz:cQ 437 Z80=true:=by kernel_rfl
theorem Zj1:cQ 438 Z36=true:=by kernel_rfl
theorem Zgw:cQ 439 Z2a=true:=by kernel_rfl
theorem Zkk:cQ 457 Z2x=true:=by kernel_rfl
theorem Zfd:cQ 459 Zan=true:=by kernel_rfl
theorem Zf8:cQ 460 Zay=true:=by kernel_rfl
theorem Zdi:cQ 461 Z3x=true:=by kernel_rfl
theorem Zka:cQ 462 Z78=true:=by kernel_rfl
theorem Zh0:cQ 463 Z2h=true:=by kernel_rfl
theorem Qzu:cQ 464 Z1x=true:=by kernel_rfl
theorem Z6k:cQ 465 Z7i=true:=by kernel_rfl
theorem Zc1:cQ 467 Z6d=true:=by kernel_rfl
theorem Z81:cQ 469 Zb7=true:=by kernel_rfl
theorem Zhk:cQ 471 Zbc=true:=by kernel_rfl
end
end Go.Av

