/- Part of the proof of CrossTexts: for every input the law returns true; no condition. -/
import Derived.Test.YtaokaobiihpkbaaGreatDoorCode1
import Derived.Test.YtaokaobiihpkbaaGreatDoorAvChk
import Derived.KernelRfl
import Derived.Test.YtaokaobiihpkbaaGreatDoorProg
set_option linter.all false
namespace Go.Av
noncomputable section
open Go.Proofs
set_option maxRecDepth 100000
abbrev cQ:=Q1s Tryz.prog
theorem k3:cQ 3 c3=true:=by kernel_rfl
theorem k6:cQ 6 c6=true:=by kernel_rfl
theorem k7:cQ 7 c7=true:=by kernel_rfl
theorem k8:cQ 8 c8=true:=by kernel_rfl
theorem k9:cQ 9 c9=true:=by kernel_rfl
theorem k10:cQ 10 c10=true:=by kernel_rfl
theorem k11:cQ 11 c11=true:=by kernel_rfl
theorem k12:cQ 12 c12=true:=by kernel_rfl
theorem k13:cQ 13 c13=true:=by kernel_rfl
theorem k14:cQ 14 c14=true:=by kernel_rfl
theorem k15:cQ 15 c15=true:=by kernel_rfl
theorem k17:cQ 17 c17=true:=by kernel_rfl
theorem k18:cQ 18 c18=true:=by kernel_rfl
theorem k19:cQ 19 c19=true:=by kernel_rfl
theorem k20:cQ 20 c20=true:=by kernel_rfl
theorem k21:cQ 21 c21=true:=by kernel_rfl
theorem k22:cQ 22 c22=true:=by kernel_rfl
theorem k23:cQ 23 c23=true:=by kernel_rfl
theorem k24:cQ 24 c24=true:=by kernel_rfl
theorem k25:cQ 25 c25=true:=by kernel_rfl
theorem k26:cQ 26 c26=true:=by kernel_rfl
theorem k27:cQ 27 c27=true:=by kernel_rfl
theorem k28:cQ 28 c28=true:=by kernel_rfl
theorem k29:cQ 29 c29=true:=by kernel_rfl
theorem k30:cQ 30 c30=true:=by kernel_rfl
theorem k31:cQ 31 c31=true:=by kernel_rfl
end
end Go.Av
namespace Go.Av
noncomputable section
open Go.Proofs
set_option maxRecDepth 100000
theorem k32:cQ 32 c32=true:=by kernel_rfl
theorem k33:cQ 33 c33=true:=by kernel_rfl
theorem k34:cQ 34 c34=true:=by kernel_rfl
theorem k35:cQ 35 c35=true:=by kernel_rfl
theorem k36:cQ 36 c36=true:=by kernel_rfl
theorem k37:cQ 37 c37=true:=by kernel_rfl
theorem k38:cQ 38 c38=true:=by kernel_rfl
theorem k39:cQ 39 c39=true:=by kernel_rfl
theorem k40:cQ 40 c40=true:=by kernel_rfl
theorem k41:cQ 41 c41=true:=by kernel_rfl
theorem k42:cQ 42 c42=true:=by kernel_rfl
theorem k43:cQ 43 c43=true:=by kernel_rfl
theorem k44:cQ 44 c44=true:=by kernel_rfl
theorem k45:cQ 45 c45=true:=by kernel_rfl
theorem k46:cQ 46 c46=true:=by kernel_rfl
theorem k47:cQ 47 c47=true:=by kernel_rfl
theorem k48:cQ 48 c48=true:=by kernel_rfl
theorem k49:cQ 49 c49=true:=by kernel_rfl
theorem k50:cQ 50 c50=true:=by kernel_rfl
theorem k51:cQ 51 c51=true:=by kernel_rfl
theorem k52:cQ 52 c52=true:=by kernel_rfl
theorem k53:cQ 53 c53=true:=by kernel_rfl
theorem k54:cQ 54 c54=true:=by kernel_rfl
theorem k55:cQ 55 c55=true:=by kernel_rfl
theorem k56:cQ 56 c56=true:=by kernel_rfl
theorem k57:cQ 57 c57=true:=by kernel_rfl
theorem k58:cQ 58 c58=true:=by kernel_rfl
theorem k59:cQ 59 c59=true:=by kernel_rfl
theorem k60:cQ 60 c60=true:=by kernel_rfl
theorem k61:cQ 61 c61=true:=by kernel_rfl
theorem k62:cQ 62 c62=true:=by kernel_rfl
theorem k63:cQ 63 c63=true:=by kernel_rfl
theorem k64:cQ 64 c64=true:=by kernel_rfl
theorem k65:cQ 65 c65=true:=by kernel_rfl
theorem k66:cQ 66 c66=true:=by kernel_rfl
theorem k67:cQ 67 c67=true:=by kernel_rfl
theorem k68:cQ 68 c68=true:=by kernel_rfl
theorem k69:cQ 69 c69=true:=by kernel_rfl
theorem k70:cQ 70 c70=true:=by kernel_rfl
theorem k71:cQ 71 c71=true:=by kernel_rfl
theorem k72:cQ 72 c72=true:=by kernel_rfl
theorem k73:cQ 73 c73=true:=by kernel_rfl
theorem k74:cQ 74 c74=true:=by kernel_rfl
theorem k75:cQ 75 c75=true:=by kernel_rfl
theorem k76:cQ 76 c76=true:=by kernel_rfl
theorem k77:cQ 77 c77=true:=by kernel_rfl
theorem k78:cQ 78 c78=true:=by kernel_rfl
theorem k79:cQ 79 c79=true:=by kernel_rfl
theorem k80:cQ 80 c80=true:=by kernel_rfl
theorem k81:cQ 81 c81=true:=by kernel_rfl
theorem k82:cQ 82 c82=true:=by kernel_rfl
theorem k83:cQ 83 c83=true:=by kernel_rfl
theorem k84:cQ 84 c84=true:=by kernel_rfl
end
end Go.Av
namespace Go.Av
noncomputable section
open Go.Proofs
set_option maxRecDepth 100000
theorem k85:cQ 85 c85=true:=by kernel_rfl
theorem k86:cQ 86 c86=true:=by kernel_rfl
theorem k87:cQ 87 c87=true:=by kernel_rfl
theorem k88:cQ 88 c88=true:=by kernel_rfl
theorem k89:cQ 89 c89=true:=by kernel_rfl
theorem k90:cQ 90 c90=true:=by kernel_rfl
theorem k91:cQ 91 c91=true:=by kernel_rfl
theorem k92:cQ 92 c92=true:=by kernel_rfl
theorem k93:cQ 93 c93=true:=by kernel_rfl
theorem k94:cQ 94 c94=true:=by kernel_rfl
theorem k95:cQ 95 c95=true:=by kernel_rfl
theorem k96:cQ 96 c96=true:=by kernel_rfl
theorem k97:cQ 97 c97=true:=by kernel_rfl
theorem k98:cQ 98 c98=true:=by kernel_rfl
theorem k99:cQ 99 c99=true:=by kernel_rfl
theorem Z5u:cQ 100 Z3r=true:=by kernel_rfl
theorem Zc3:cQ 101 Z5x=true:=by kernel_rfl
theorem Z05:cQ 102 Z1v=true:=by kernel_rfl
theorem Z0a:cQ 103 Z93=true:=by kernel_rfl
theorem Z8n:cQ 104 Zdy=true:=by kernel_rfl
theorem Z4m:cQ 105 Zc8=true:=by kernel_rfl
theorem Zbd:cQ 106 Z31=true:=by kernel_rfl
theorem Zde:cQ 107 Z90=true:=by kernel_rfl
theorem Zfg:cQ 108 Zdu=true:=by kernel_rfl
theorem Zi2:cQ 109 Z8b=true:=by kernel_rfl
theorem Zee:cQ 110 Z8d=true:=by kernel_rfl
theorem Zl2:cQ 111 Z6r=true:=by kernel_rfl
theorem Zm4:cQ 112 Z9u=true:=by kernel_rfl
theorem Z9i:cQ 113 Zd8=true:=by kernel_rfl
theorem Z5i:cQ 114 Zd3=true:=by kernel_rfl
theorem Zgl:cQ 115 Zbn=true:=by kernel_rfl
theorem Z9a:cQ 116 Z8l=true:=by kernel_rfl
theorem Zlf:cQ 117 Z30=true:=by kernel_rfl
theorem Z42:cQ 118 Zbx=true:=by kernel_rfl
theorem Z3q:cQ 119 Z2g=true:=by kernel_rfl
theorem Z2y:cQ 120 Zcl=true:=by kernel_rfl
theorem Zb7:cQ 121 Z5e=true:=by kernel_rfl
theorem Z2r:cQ 122 Z3j=true:=by kernel_rfl
theorem Zct:cQ 123 Ze4=true:=by kernel_rfl
theorem Zan:cQ 124 Z8w=true:=by kernel_rfl
theorem Z58:cQ 125 Zaz=true:=by kernel_rfl
theorem Zhv:cQ 126 Z8q=true:=by kernel_rfl
theorem Zcg:cQ 127 Zal=true:=by kernel_rfl
end
end Go.Av
namespace Go.Av
noncomputable section
open Go.Proofs
set_option maxRecDepth 100000
theorem Z1c:cQ 128 Z99=true:=by kernel_rfl
theorem Zbt:cQ 129 Zaa=true:=by kernel_rfl
theorem Z6w:cQ 130 Z63=true:=by kernel_rfl
theorem Z5w:cQ 131 Z4f=true:=by kernel_rfl
theorem Z2e:cQ 132 Z8j=true:=by kernel_rfl
theorem Z9f:cQ 133 Zbs=true:=by kernel_rfl
theorem Z3u:cQ 134 Z4l=true:=by kernel_rfl
theorem Zm0:cQ 135 Za8=true:=by kernel_rfl
theorem Z2q:cQ 136 Zbq=true:=by kernel_rfl
theorem Zjm:cQ 137 Z23=true:=by kernel_rfl
theorem Zgj:cQ 138 Zam=true:=by kernel_rfl
theorem Zig:cQ 139 Zdn=true:=by kernel_rfl
theorem Zha:cQ 140 Z3f=true:=by kernel_rfl
theorem Zk0:cQ 141 Z5g=true:=by kernel_rfl
theorem Zjj:cQ 142 Zb9=true:=by kernel_rfl
theorem Zj4:cQ 143 Zab=true:=by kernel_rfl
theorem Z7y:cQ 144 Z2x=true:=by kernel_rfl
theorem Zat:cQ 145 Z6f=true:=by kernel_rfl
theorem Zao:cQ 146 Z75=true:=by kernel_rfl
theorem Z9x:cQ 147 Z9y=true:=by kernel_rfl
theorem Zc7:cQ 148 Z6e=true:=by kernel_rfl
theorem Zk8:cQ 149 Z7a=true:=by kernel_rfl
theorem Zhc:cQ 150 Z22=true:=by kernel_rfl
theorem Zjw:cQ 151 Zch=true:=by kernel_rfl
theorem Zg1:cQ 152 Z6s=true:=by kernel_rfl
theorem Z7q:cQ 153 Zbo=true:=by kernel_rfl
theorem Zd4:cQ 154 Z1w=true:=by kernel_rfl
theorem Z4h:cQ 155 Z2m=true:=by kernel_rfl
theorem Zd7:cQ 156 Z2c=true:=by kernel_rfl
theorem Z69:cQ 157 Zdc=true:=by kernel_rfl
theorem Zdf:cQ 158 Z34=true:=by kernel_rfl
theorem Z5b:cQ 159 Zcb=true:=by kernel_rfl
theorem Zae:cQ 160 Z7x=true:=by kernel_rfl
theorem Z4b:cQ 161 Z43=true:=by kernel_rfl
theorem Zce:cQ 162 Z83=true:=by kernel_rfl
theorem Z2d:cQ 163 Z32=true:=by kernel_rfl
theorem Z38:cQ 164 Z2t=true:=by kernel_rfl
theorem Z60:cQ 165 Z4p=true:=by kernel_rfl
theorem Z5m:cQ 166 Z6q=true:=by kernel_rfl
theorem Zby:cQ 167 Z5p=true:=by kernel_rfl
theorem Z98:cQ 168 Zdr=true:=by kernel_rfl
theorem Zdw:cQ 169 Z35=true:=by kernel_rfl
theorem Zbh:cQ 170 Zci=true:=by kernel_rfl
theorem Zcm:cQ 171 Z2k=true:=by kernel_rfl
theorem Zln:cQ 172 Z6p=true:=by kernel_rfl
theorem Zlz:cQ 173 Z9n=true:=by kernel_rfl
theorem Zhr:cQ 174 Zc5=true:=by kernel_rfl
end
end Go.Av
namespace Go.Av
noncomputable section
open Go.Proofs
set_option maxRecDepth 100000
theorem Zll:cQ 175 Z56=true:=by kernel_rfl
theorem Zhe:cQ 176 Z65=true:=by kernel_rfl
theorem Zec:cQ 177 Z3y=true:=by kernel_rfl
theorem Zi0:cQ 178 Z8m=true:=by kernel_rfl
theorem Zfi:cQ 179 Za1=true:=by kernel_rfl
theorem Zlh:cQ 180 Z24=true:=by kernel_rfl
theorem Zbb:cQ 181 Zdv=true:=by kernel_rfl
theorem Z6a:cQ 182 Z6g=true:=by kernel_rfl
theorem Zdh:cQ 183 Z3b=true:=by kernel_rfl
theorem Zm6:cQ 184 Z2u=true:=by kernel_rfl
theorem Zfj:cQ 186 Zc0=true:=by kernel_rfl
theorem Zi4:cQ 187 Zcs=true:=by kernel_rfl
theorem Zjl:cQ 188 Z2a=true:=by kernel_rfl
theorem Zg7:cQ 189 Z48=true:=by kernel_rfl
theorem Zg2:cQ 190 Z3c=true:=by kernel_rfl
theorem Zfb:cQ 191 Zb8=true:=by kernel_rfl
theorem Zlg:cQ 192 Z57=true:=by kernel_rfl
theorem Zi7:cQ 193 Zcq=true:=by kernel_rfl
theorem Z2j:cQ 194 Z8t=true:=by kernel_rfl
theorem Z8o:cQ 195 Z1u=true:=by kernel_rfl
theorem Z7m:cQ 196 Z84=true:=by kernel_rfl
theorem Zap:cQ 197 Z3w=true:=by kernel_rfl
theorem Zd1:cQ 198 Zc4=true:=by kernel_rfl
theorem Zif:cQ 199 Z8u=true:=by kernel_rfl
theorem Zef:cQ 200 Zdp=true:=by kernel_rfl
theorem Zjo:cQ 201 Zbi=true:=by kernel_rfl
theorem Zlo:cQ 202 Zaf=true:=by kernel_rfl
theorem Zhy:cQ 203 Z3g=true:=by kernel_rfl
theorem Zf5:cQ 204 Z9w=true:=by kernel_rfl
theorem Zh1:cQ 205 Z6i=true:=by kernel_rfl
theorem Zj7:cQ 206 Z1t=true:=by kernel_rfl
theorem Z3x:cQ 207 Zbf=true:=by kernel_rfl
theorem Zj6:cQ 208 Zbr=true:=by kernel_rfl
theorem Zeu:cQ 209 Z6c=true:=by kernel_rfl
theorem Zhz:cQ 210 Z5k=true:=by kernel_rfl
theorem Zel:cQ 211 Zb3=true:=by kernel_rfl
theorem Zjz:cQ 212 Z97=true:=by kernel_rfl
theorem Zkf:cQ 213 Zb1=true:=by kernel_rfl
theorem Zhw:cQ 214 Z89=true:=by kernel_rfl
theorem Zhm:cQ 215 Z6d=true:=by kernel_rfl
end
end Go.Av
namespace Go.Av
noncomputable section
open Go.Proofs
set_option maxRecDepth 100000
theorem Zkp:cQ 216 Zau=true:=by kernel_rfl
theorem Z9c:cQ 217 Z53=true:=by kernel_rfl
theorem Za9:cQ 218 Z37=true:=by kernel_rfl
theorem Z6o:cQ 219 Zcf=true:=by kernel_rfl
theorem Z2w:cQ 220 Z72=true:=by kernel_rfl
theorem Z4k:cQ 221 Z28=true:=by kernel_rfl
theorem Zax:cQ 222 Z3h=true:=by kernel_rfl
theorem Zcr:cQ 223 Z87=true:=by kernel_rfl
theorem Za6:cQ 224 Z26=true:=by kernel_rfl
theorem Zf6:cQ 225 Z6z=true:=by kernel_rfl
theorem Zm5:cQ 226 Z39=true:=by kernel_rfl
theorem Zl1:cQ 228 Z3l=true:=by kernel_rfl
theorem Zfm:cQ 229 Z67=true:=by kernel_rfl
theorem Zfp:cQ 230 Z5c=true:=by kernel_rfl
theorem Zfy:cQ 231 Zbw=true:=by kernel_rfl
theorem Zl0:cQ 232 Z6j=true:=by kernel_rfl
theorem Zgp:cQ 233 Z7i=true:=by kernel_rfl
theorem Zk2:cQ 234 Zcw=true:=by kernel_rfl
theorem Ziz:cQ 235 Zcx=true:=by kernel_rfl
theorem Zg3:cQ 236 Zdx=true:=by kernel_rfl
theorem Zlj:cQ 237 Z94=true:=by kernel_rfl
theorem Zip:cQ 238 Z7z=true:=by kernel_rfl
theorem Zj1:cQ 239 Zco=true:=by kernel_rfl
theorem Zm2:cQ 240 Z6x=true:=by kernel_rfl
theorem Zfo:cQ 241 Z5d=true:=by kernel_rfl
theorem Zep:cQ 242 Zb4=true:=by kernel_rfl
theorem Zjb:cQ 243 Ze5=true:=by kernel_rfl
theorem Zfx:cQ 244 Zc1=true:=by kernel_rfl
theorem Zky:cQ 245 Z8r=true:=by kernel_rfl
theorem Zfh:cQ 246 Z7s=true:=by kernel_rfl
theorem Zii:cQ 247 Ze7=true:=by kernel_rfl
theorem Z8h:cQ 248 Zbu=true:=by kernel_rfl
theorem Za3:cQ 249 Z91=true:=by kernel_rfl
theorem Zea:cQ 250 Z46=true:=by kernel_rfl
theorem Z2h:cQ 251 Z8i=true:=by kernel_rfl
theorem Zkq:cQ 252 Z8y=true:=by kernel_rfl
theorem Zej:cQ 253 Za7=true:=by kernel_rfl
theorem Zem:cQ 254 Z9l=true:=by kernel_rfl
theorem Zgz:cQ 255 Zdg=true:=by kernel_rfl
theorem Zgb:cQ 256 Z59=true:=by kernel_rfl
theorem Zl7:cQ 257 Z2o=true:=by kernel_rfl
theorem Zie:cQ 258 Z2f=true:=by kernel_rfl
theorem Zf2:cQ 259 Z77=true:=by kernel_rfl
theorem Zjn:cQ 260 Z8c=true:=by kernel_rfl
end
end Go.Av
namespace Go.Av
noncomputable section
open Go.Proofs
set_option maxRecDepth 100000
theorem Zfs:cQ 261 Z6v=true:=by kernel_rfl
theorem Zks:cQ 262 Z85=true:=by kernel_rfl
theorem Zm1:cQ 263 Z2i=true:=by kernel_rfl
theorem Zgr:cQ 264 Z8s=true:=by kernel_rfl
theorem Zik:cQ 265 Z6y=true:=by kernel_rfl
theorem Zeh:cQ 266 Z5a=true:=by kernel_rfl
theorem Zf8:cQ 267 Z4g=true:=by kernel_rfl
theorem Zko:cQ 268 Zdq=true:=by kernel_rfl
theorem Zij:cQ 269 Z51=true:=by kernel_rfl
theorem Zgn:cQ 270 Z7j=true:=by kernel_rfl
theorem Qjq:cQ 271 Z4d=true:=by kernel_rfl
theorem Zhk:cQ 272 Z4s=true:=by kernel_rfl
theorem Zg4:cQ 273 Z5n=true:=by kernel_rfl
theorem Zl4:cQ 274 Z2v=true:=by kernel_rfl
theorem Zjd:cQ 275 Z78=true:=by kernel_rfl
theorem Z7k:cQ 276 Z8p=true:=by kernel_rfl
theorem Zkm:cQ 277 Z5r=true:=by kernel_rfl
theorem Zlr:cQ 278 Z8x=true:=by kernel_rfl
theorem Zh4:cQ 279 Ze0=true:=by kernel_rfl
theorem Z5y:cQ 280 Z5t=true:=by kernel_rfl
theorem Z3s:cQ 281 Z66=true:=by kernel_rfl
theorem Z6b:cQ 282 Zdm=true:=by kernel_rfl
theorem Zhb:cQ 283 Zbe=true:=by kernel_rfl
theorem Zew:cQ 284 Zb0=true:=by kernel_rfl
theorem Zit:cQ 285 Z29=true:=by kernel_rfl
theorem Zim:cQ 286 Ze1=true:=by kernel_rfl
theorem Zjq:cQ 287 Z5v=true:=by kernel_rfl
theorem Zg5:cQ 288 Zar=true:=by kernel_rfl
theorem Zlt:cQ 289 Zda=true:=by kernel_rfl
theorem Zh8:cQ 290 Z5o=true:=by kernel_rfl
theorem Zl6:cQ 291 Z4z=true:=by kernel_rfl
theorem Zga:cQ 292 Z5z=true:=by kernel_rfl
theorem Zji:cQ 293 Zd0=true:=by kernel_rfl
theorem Zh6:cQ 294 Zd9=true:=by kernel_rfl
theorem Zj9:cQ 295 Zcu=true:=by kernel_rfl
theorem Zi8:cQ 296 Z8g=true:=by kernel_rfl
theorem Zgf:cQ 297 Z21=true:=by kernel_rfl
theorem Zba:cQ 298 Z70=true:=by kernel_rfl
theorem Z86:cQ 299 Z95=true:=by kernel_rfl
theorem Zjk:cQ 300 Z2b=true:=by kernel_rfl
theorem Zho:cQ 301 Z3p=true:=by kernel_rfl
theorem Z08:cQ 302 Z6u=true:=by kernel_rfl
theorem Zja:cQ 303 Z52=true:=by kernel_rfl
theorem Zgt:cQ 304 Z5s=true:=by kernel_rfl
theorem Zg9:cQ 305 Zaj=true:=by kernel_rfl
theorem Zg0:cQ 306 Z2z=true:=by kernel_rfl
theorem Zki:cQ 307 Z9r=true:=by kernel_rfl
theorem Zkx:cQ 308 Zdj=true:=by kernel_rfl
theorem Zk5:cQ 309 Zd6=true:=by kernel_rfl
end
end Go.Av
namespace Go.Av
noncomputable section
open Go.Proofs
set_option maxRecDepth 100000
theorem Z4x:cQ 310 Z9q=true:=by kernel_rfl
theorem Qyn:cQ 311 Zcj=true:=by kernel_rfl
theorem Zk6:cQ 312 Z9v=true:=by kernel_rfl
theorem Zj3:cQ 313 Z3e=true:=by kernel_rfl
theorem Zh5:cQ 314 Z6t=true:=by kernel_rfl
theorem Zeg:cQ 315 Z27=true:=by kernel_rfl
theorem Zlp:cQ 316 Z7p=true:=by kernel_rfl
theorem Zjg:cQ 317 Zdt=true:=by kernel_rfl
theorem Zjr:cQ 318 Zd2=true:=by kernel_rfl
theorem Zh2:cQ 319 Z92=true:=by kernel_rfl
theorem Zi6:cQ 320 Zdi=true:=by kernel_rfl
theorem Zm7:cQ 321 Z3d=true:=by kernel_rfl
theorem Zhd:cQ 322 Z9j=true:=by kernel_rfl
theorem Zlk:cQ 323 Z62=true:=by kernel_rfl
theorem Zgo:cQ 324 Z1z=true:=by kernel_rfl
theorem Ziv:cQ 325 Zc6=true:=by kernel_rfl
theorem Zhh:cQ 326 Z8k=true:=by kernel_rfl
theorem Zkg:cQ 327 Z96=true:=by kernel_rfl
theorem Zhj:cQ 328 Z54=true:=by kernel_rfl
theorem Zfz:cQ 329 Z80=true:=by kernel_rfl
theorem Z03:cQ 330 Zdo=true:=by kernel_rfl
theorem Z40:cQ 331 Zcy=true:=by kernel_rfl
theorem Zeo:cQ 332 Z81=true:=by kernel_rfl
theorem Zis:cQ 333 Za2=true:=by kernel_rfl
theorem Zih:cQ 334 Zaw=true:=by kernel_rfl
theorem Zf0:cQ 335 Z9h=true:=by kernel_rfl
theorem Zku:cQ 336 Zag=true:=by kernel_rfl
theorem Zgd:cQ 337 Ze9=true:=by kernel_rfl
theorem Zf3:cQ 338 Z5j=true:=by kernel_rfl
theorem Zld:cQ 339 Z7u=true:=by kernel_rfl
theorem Zkb:cQ 340 Z9t=true:=by kernel_rfl
theorem Zg6:cQ 341 Z4u=true:=by kernel_rfl
theorem Zev:cQ 342 Ze8=true:=by kernel_rfl
theorem Qyv:cQ 343 Z7n=true:=by kernel_rfl
theorem Zkl:cQ 344 Zbz=true:=by kernel_rfl
theorem Zfc:cQ 345 Z4a=true:=by kernel_rfl
theorem Zkn:cQ 346 Z9e=true:=by kernel_rfl
theorem Zj2:cQ 347 Z7r=true:=by kernel_rfl
theorem Zft:cQ 348 Za5=true:=by kernel_rfl
theorem Zff:cQ 349 Zbk=true:=by kernel_rfl
theorem Zk9:cQ 350 Z4e=true:=by kernel_rfl
theorem Zjc:cQ 351 Z9m=true:=by kernel_rfl
theorem Zes:cQ 352 Zd5=true:=by kernel_rfl
theorem Zi9:cQ 353 Zay=true:=by kernel_rfl
theorem Zgm:cQ 354 Z3t=true:=by kernel_rfl
theorem Zgu:cQ 355 Z71=true:=by kernel_rfl
theorem Zkh:cQ 356 Z7b=true:=by kernel_rfl
theorem Zek:cQ 357 Z7w=true:=by kernel_rfl
theorem Zl3:cQ 358 Zdk=true:=by kernel_rfl
theorem Zk3:cQ 359 Zdd=true:=by kernel_rfl
end
end Go.Av
namespace Go.Av
noncomputable section
open Go.Proofs
set_option maxRecDepth 100000
theorem Zk4:cQ 360 Zas=true:=by kernel_rfl
theorem Ziw:cQ 361 Zca=true:=by kernel_rfl
theorem Zgv:cQ 362 Z9d=true:=by kernel_rfl
theorem Zlb:cQ 363 Zcc=true:=by kernel_rfl
theorem Zil:cQ 364 Z64=true:=by kernel_rfl
theorem Zhu:cQ 365 Za0=true:=by kernel_rfl
theorem Ziu:cQ 366 Z4c=true:=by kernel_rfl
theorem Ziy:cQ 367 Z3n=true:=by kernel_rfl
theorem Zl8:cQ 368 Z5l=true:=by kernel_rfl
theorem Zer:cQ 369 Z6m=true:=by kernel_rfl
theorem Zfv:cQ 370 Z9z=true:=by kernel_rfl
theorem Zgw:cQ 371 Zaq=true:=by kernel_rfl
theorem Ziq:cQ 372 Z7c=true:=by kernel_rfl
theorem Zir:cQ 373 Z4o=true:=by kernel_rfl
theorem Zkv:cQ 374 Z45=true:=by kernel_rfl
theorem Zjp:cQ 375 Z4y=true:=by kernel_rfl
theorem Zf7:cQ 376 Z7o=true:=by kernel_rfl
theorem Zic:cQ 377 Zds=true:=by kernel_rfl
theorem Zed:cQ 378 Zcd=true:=by kernel_rfl
theorem Zkk:cQ 379 Z2p=true:=by kernel_rfl
theorem Zkr:cQ 380 Z4q=true:=by kernel_rfl
theorem Zgc:cQ 381 Z4v=true:=by kernel_rfl
theorem Zfl:cQ 382 Z6n=true:=by kernel_rfl
theorem Zio:cQ 383 Za4=true:=by kernel_rfl
theorem Zhq:cQ 384 Zah=true:=by kernel_rfl
theorem Zg8:cQ 385 Z4i=true:=by kernel_rfl
theorem Zix:cQ 386 Zb5=true:=by kernel_rfl
theorem Zke:cQ 387 Zbj=true:=by kernel_rfl
theorem Zhf:cQ 388 Z7l=true:=by kernel_rfl
theorem Zge:cQ 389 Z3i=true:=by kernel_rfl
theorem Zhi:cQ 390 Zdl=true:=by kernel_rfl
theorem Zia:cQ 391 Ze3=true:=by kernel_rfl
theorem Zgs:cQ 392 Z1x=true:=by kernel_rfl
theorem Zje:cQ 393 Z44=true:=by kernel_rfl
theorem Zlq:cQ 394 Zbv=true:=by kernel_rfl
theorem Zkw:cQ 395 Z82=true:=by kernel_rfl
theorem Zk7:cQ 396 Zbp=true:=by kernel_rfl
theorem Zi3:cQ 397 Z49=true:=by kernel_rfl
end
end Go.Av
namespace Go.Av
noncomputable section
open Go.Proofs
set_option maxRecDepth 100000
theorem Zhs:cQ 398 Z7t=true:=by kernel_rfl
theorem Zhg:cQ 399 Zdb=true:=by kernel_rfl
theorem Zeb:cQ 400 Z33=true:=by kernel_rfl
theorem Zib:cQ 401 Zav=true:=by kernel_rfl
theorem Zlc:cQ 402 Z9k=true:=by kernel_rfl
theorem Zfq:cQ 403 Ze6=true:=by kernel_rfl
theorem Zen:cQ 404 Zbl=true:=by kernel_rfl
theorem Zf9:cQ 405 Z3m=true:=by kernel_rfl
theorem Zgq:cQ 406 Z9s=true:=by kernel_rfl
theorem Zli:cQ 407 Z3k=true:=by kernel_rfl
theorem Zgh:cQ 408 Zcz=true:=by kernel_rfl
theorem Zid:cQ 409 Zad=true:=by kernel_rfl
theorem Zju:cQ 410 Zbg=true:=by kernel_rfl
theorem Zet:cQ 411 Zck=true:=by kernel_rfl
theorem Zhp:cQ 412 Zcp=true:=by kernel_rfl
theorem Zei:cQ 413 Zb6=true:=by kernel_rfl
theorem Zkd:cQ 414 Zcv=true:=by kernel_rfl
theorem Zfd:cQ 415 Z73=true:=by kernel_rfl
theorem Zgy:cQ 416 Zai=true:=by kernel_rfl
theorem Zgi:cQ 417 Z61=true:=by kernel_rfl
theorem Zf4:cQ 418 Z4n=true:=by kernel_rfl
theorem Zfk:cQ 419 Z79=true:=by kernel_rfl
theorem Zlx:cQ 420 Zbc=true:=by kernel_rfl
theorem Zka:cQ 421 Zac=true:=by kernel_rfl
theorem Zez:cQ 422 Z25=true:=by kernel_rfl
theorem Zlm:cQ 423 Z4r=true:=by kernel_rfl
theorem Zlw:cQ 424 Z2n=true:=by kernel_rfl
theorem Zi1:cQ 426 Zb2=true:=by kernel_rfl
theorem Zht:cQ 429 Z8a=true:=by kernel_rfl
theorem Zhl:cQ 430 Z5q=true:=by kernel_rfl
theorem Zgg:cQ 431 Zbm=true:=by kernel_rfl
theorem Zjs:cQ 432 Z9p=true:=by kernel_rfl
theorem Zj5:cQ 433 Z8e=true:=by kernel_rfl
theorem Zj0:cQ 434 Z8z=true:=by kernel_rfl
theorem Zi5:cQ 435 Z6h=true:=by kernel_rfl
theorem Zjf:cQ 436 Z9g=true:=by kernel_rfl
theorem Zjv:cQ 437 Z7e=true:=by kernel_rfl
theorem Zle:cQ 438 Z7v=true:=by kernel_rfl
theorem Zjy:cQ 439 Z4w=true:=by kernel_rfl
theorem Zk1:cQ 457 Z47=true:=by kernel_rfl
theorem Zhn:cQ 459 Zak=true:=by kernel_rfl
theorem Zly:cQ 460 Z41=true:=by kernel_rfl
theorem Zh7:cQ 461 Ze2=true:=by kernel_rfl
theorem Zgk:cQ 462 Z4j=true:=by kernel_rfl
theorem Zh9:cQ 463 Zdz=true:=by kernel_rfl
theorem Z0s:cQ 464 Z6k=true:=by kernel_rfl
theorem Z3o:cQ 465 Z1y=true:=by kernel_rfl
theorem Z68:cQ 467 Zcn=true:=by kernel_rfl
theorem Z55:cQ 469 Z5h=true:=by kernel_rfl
theorem Zfr:cQ 471 Z2s=true:=by kernel_rfl
end
end Go.Av

