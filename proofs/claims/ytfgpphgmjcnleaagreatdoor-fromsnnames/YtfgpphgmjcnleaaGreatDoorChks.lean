/- Part of FromsnNames: the law returns true; no condition. -/
import Derived.Test.YtfgpphgmjcnleaaGreatDoorCode1
import Derived.Test.YtfgpphgmjcnleaaGreatDoorAvChk
import Derived.KernelRfl
import Derived.Test.YtfgpphgmjcnleaaGreatDoorProg
set_option linter.all false
namespace Go.Av
noncomputable section
open Go.Proofs
set_option maxRecDepth 100000
abbrev cQ:=Jy Tryz.prog
theorem k3:cQ 3 c3=true:=by kernel_rfl
theorem k4:cQ 4 c4=true:=by kernel_rfl
theorem k5:cQ 5 c5=true:=by kernel_rfl
theorem k6:cQ 6 c6=true:=by kernel_rfl
theorem k7:cQ 7 c7=true:=by kernel_rfl
theorem k8:cQ 8 c8=true:=by kernel_rfl
theorem k9:cQ 9 c9=true:=by kernel_rfl
theorem k10:cQ 10 c10=true:=by kernel_rfl
theorem k11:cQ 11 c11=true:=by kernel_rfl
theorem k12:cQ 12 c12=true:=by kernel_rfl
theorem k13:cQ 13 c13=true:=by kernel_rfl
theorem k14:cQ 14 c14=true:=by kernel_rfl
theorem k15:cQ 15 c15=true:=by kernel_rfl
theorem k16:cQ 16 c16=true:=by kernel_rfl
theorem k17:cQ 17 c17=true:=by kernel_rfl
theorem k18:cQ 18 c18=true:=by kernel_rfl
theorem k19:cQ 19 c19=true:=by kernel_rfl
theorem k20:cQ 20 c20=true:=by kernel_rfl
theorem k21:cQ 21 c21=true:=by kernel_rfl
theorem k22:cQ 22 c22=true:=by kernel_rfl
theorem k23:cQ 23 c23=true:=by kernel_rfl
theorem k24:cQ 24 c24=true:=by kernel_rfl
theorem k25:cQ 25 c25=true:=by kernel_rfl
theorem k26:cQ 26 c26=true:=by kernel_rfl
theorem k27:cQ 27 c27=true:=by kernel_rfl
theorem k28:cQ 28 c28=true:=by kernel_rfl
theorem k29:cQ 29 c29=true:=by kernel_rfl
theorem k30:cQ 30 c30=true:=by kernel_rfl
theorem k31:cQ 31 c31=true:=by kernel_rfl
theorem k32:cQ 32 c32=true:=by kernel_rfl
theorem k33:cQ 33 c33=true:=by kernel_rfl
theorem k34:cQ 34 c34=true:=by kernel_rfl
theorem k35:cQ 35 c35=true:=by kernel_rfl
end
end Go.Av
namespace Go.Av
noncomputable section
open Go.Proofs
set_option maxRecDepth 100000
theorem k36:cQ 36 c36=true:=by kernel_rfl
theorem k37:cQ 37 c37=true:=by kernel_rfl
theorem k38:cQ 38 c38=true:=by kernel_rfl
theorem k39:cQ 39 c39=true:=by kernel_rfl
theorem k40:cQ 40 c40=true:=by kernel_rfl
theorem k41:cQ 41 c41=true:=by kernel_rfl
theorem k42:cQ 42 c42=true:=by kernel_rfl
theorem k43:cQ 43 c43=true:=by kernel_rfl
theorem k44:cQ 44 c44=true:=by kernel_rfl
theorem k45:cQ 45 c45=true:=by kernel_rfl
theorem k46:cQ 46 c46=true:=by kernel_rfl
theorem k47:cQ 47 c47=true:=by kernel_rfl
theorem k48:cQ 48 c48=true:=by kernel_rfl
theorem k49:cQ 49 c49=true:=by kernel_rfl
theorem k50:cQ 50 c50=true:=by kernel_rfl
theorem k51:cQ 51 c51=true:=by kernel_rfl
theorem k52:cQ 52 c52=true:=by kernel_rfl
theorem k53:cQ 53 c53=true:=by kernel_rfl
theorem k54:cQ 54 c54=true:=by kernel_rfl
theorem k55:cQ 55 c55=true:=by kernel_rfl
theorem k56:cQ 56 c56=true:=by kernel_rfl
theorem k57:cQ 57 c57=true:=by kernel_rfl
theorem k58:cQ 58 c58=true:=by kernel_rfl
theorem k59:cQ 59 c59=true:=by kernel_rfl
theorem k60:cQ 60 c60=true:=by kernel_rfl
theorem k61:cQ 61 c61=true:=by kernel_rfl
theorem k62:cQ 62 c62=true:=by kernel_rfl
theorem k63:cQ 63 c63=true:=by kernel_rfl
theorem k64:cQ 64 c64=true:=by kernel_rfl
theorem k65:cQ 65 c65=true:=by kernel_rfl
theorem k66:cQ 66 c66=true:=by kernel_rfl
theorem k67:cQ 67 c67=true:=by kernel_rfl
theorem k68:cQ 68 c68=true:=by kernel_rfl
theorem k69:cQ 69 c69=true:=by kernel_rfl
theorem k70:cQ 70 c70=true:=by kernel_rfl
theorem k71:cQ 71 c71=true:=by kernel_rfl
theorem k72:cQ 72 c72=true:=by kernel_rfl
theorem k73:cQ 73 c73=true:=by kernel_rfl
theorem k74:cQ 74 c74=true:=by kernel_rfl
theorem k75:cQ 75 c75=true:=by kernel_rfl
theorem k76:cQ 76 c76=true:=by kernel_rfl
theorem k77:cQ 77 c77=true:=by kernel_rfl
theorem k78:cQ 78 c78=true:=by kernel_rfl
theorem k79:cQ 79 c79=true:=by kernel_rfl
theorem k80:cQ 80 c80=true:=by kernel_rfl
theorem k81:cQ 81 c81=true:=by kernel_rfl
theorem k82:cQ 82 c82=true:=by kernel_rfl
theorem k83:cQ 83 c83=true:=by kernel_rfl
theorem k84:cQ 84 c84=true:=by kernel_rfl
theorem k85:cQ 85 c85=true:=by kernel_rfl
theorem k86:cQ 86 c86=true:=by kernel_rfl
theorem k87:cQ 87 c87=true:=by kernel_rfl
theorem k88:cQ 88 c88=true:=by kernel_rfl
theorem k89:cQ 89 c89=true:=by kernel_rfl
theorem k90:cQ 90 c90=true:=by kernel_rfl
theorem k91:cQ 91 c91=true:=by kernel_rfl
theorem k92:cQ 92 c92=true:=by kernel_rfl
theorem k93:cQ 93 c93=true:=by kernel_rfl
end
end Go.Av
namespace Go.Av
noncomputable section
open Go.Proofs
set_option maxRecDepth 100000
theorem k94:cQ 94 c94=true:=by kernel_rfl
theorem k95:cQ 95 c95=true:=by kernel_rfl
theorem k96:cQ 96 c96=true:=by kernel_rfl
theorem k97:cQ 97 c97=true:=by kernel_rfl
theorem k98:cQ 98 c98=true:=by kernel_rfl
theorem k99:cQ 99 c99=true:=by kernel_rfl
theorem Z44:cQ 100 Z2u=true:=by kernel_rfl
theorem Z38:cQ 101 Z30=true:=by kernel_rfl
theorem Z7d:cQ 102 Z12=true:=by kernel_rfl
theorem Qvf:cQ 103 Z48=true:=by kernel_rfl
theorem Z7a:cQ 104 Qv7=true:=by kernel_rfl
theorem Z74:cQ 105 Z1d=true:=by kernel_rfl
theorem Z5u:cQ 106 Z2j=true:=by kernel_rfl
theorem Z5v:cQ 107 Z1f=true:=by kernel_rfl
theorem Za6:cQ 108 Qy0=true:=by kernel_rfl
theorem Qfv:cQ 109 Z2b=true:=by kernel_rfl
theorem Qw4:cQ 110 Qyh=true:=by kernel_rfl
theorem Z03:cQ 111 Qui=true:=by kernel_rfl
theorem Z1s:cQ 112 Qxg=true:=by kernel_rfl
theorem Z04:cQ 113 Quy=true:=by kernel_rfl
theorem Z14:cQ 114 Z1l=true:=by kernel_rfl
theorem Qxm:cQ 115 Qux=true:=by kernel_rfl
theorem Z0x:cQ 116 Qvq=true:=by kernel_rfl
theorem Qw9:cQ 117 Qwi=true:=by kernel_rfl
theorem Z4c:cQ 118 Z1h=true:=by kernel_rfl
theorem Qvy:cQ 119 Z24=true:=by kernel_rfl
theorem Qw2:cQ 120 Qz1=true:=by kernel_rfl
theorem Qv2:cQ 121 Qv3=true:=by kernel_rfl
theorem Qyf:cQ 122 Qx1=true:=by kernel_rfl
theorem Qyr:cQ 123 Qxi=true:=by kernel_rfl
theorem Z0f:cQ 124 Qyy=true:=by kernel_rfl
theorem Qz0:cQ 125 Qut=true:=by kernel_rfl
theorem Z54:cQ 126 Qx7=true:=by kernel_rfl
theorem Z7n:cQ 127 Z0s=true:=by kernel_rfl
theorem Z73:cQ 128 Qxs=true:=by kernel_rfl
theorem Z62:cQ 129 Qvg=true:=by kernel_rfl
theorem Z4v:cQ 130 Z15=true:=by kernel_rfl
theorem Qzm:cQ 131 Qzs=true:=by kernel_rfl
theorem Qvd:cQ 132 Z0o=true:=by kernel_rfl
theorem Qxp:cQ 133 Qwu=true:=by kernel_rfl
theorem Qzn:cQ 134 Z1p=true:=by kernel_rfl
theorem Z07:cQ 135 Z27=true:=by kernel_rfl
theorem Z3i:cQ 136 Qwa=true:=by kernel_rfl
theorem Quh:cQ 137 Qw0=true:=by kernel_rfl
theorem Z20:cQ 138 Qw3=true:=by kernel_rfl
theorem Z26:cQ 139 Z0r=true:=by kernel_rfl
theorem Qxh:cQ 140 Qyk=true:=by kernel_rfl
theorem Z8q:cQ 141 Z4d=true:=by kernel_rfl
theorem Qxq:cQ 142 Qxd=true:=by kernel_rfl
end
end Go.Av
namespace Go.Av
noncomputable section
open Go.Proofs
set_option maxRecDepth 100000
theorem Qu5:cQ 143 Qzw=true:=by kernel_rfl
theorem Quo:cQ 144 Qzq=true:=by kernel_rfl
theorem Z2d:cQ 145 Qur=true:=by kernel_rfl
theorem Qvk:cQ 146 Z0v=true:=by kernel_rfl
theorem Z8s:cQ 147 Quw=true:=by kernel_rfl
theorem Z4x:cQ 148 Z34=true:=by kernel_rfl
theorem Z4w:cQ 149 Qx5=true:=by kernel_rfl
theorem Z82:cQ 150 Qya=true:=by kernel_rfl
theorem Z6w:cQ 151 Qyj=true:=by kernel_rfl
theorem Z8e:cQ 152 Qzh=true:=by kernel_rfl
theorem Zaf:cQ 153 Z2x=true:=by kernel_rfl
theorem Z63:cQ 154 Qva=true:=by kernel_rfl
theorem Z4r:cQ 155 Qxy=true:=by kernel_rfl
theorem Qn5:cQ 156 Qv5=true:=by kernel_rfl
theorem Qtn:cQ 157 Z1i=true:=by kernel_rfl
theorem Qzg:cQ 158 Qzb=true:=by kernel_rfl
theorem Zae:cQ 159 Z1r=true:=by kernel_rfl
theorem Qsw:cQ 160 Qv0=true:=by kernel_rfl
theorem Qqn:cQ 161 Z1u=true:=by kernel_rfl
theorem Qvv:cQ 162 Qwk=true:=by kernel_rfl
theorem Qxa:cQ 163 Qvh=true:=by kernel_rfl
theorem Qyp:cQ 164 Qx0=true:=by kernel_rfl
theorem Z7w:cQ 165 Qy5=true:=by kernel_rfl
theorem Z53:cQ 166 Qvm=true:=by kernel_rfl
theorem Z50:cQ 167 Qvx=true:=by kernel_rfl
theorem Zal:cQ 168 Qwz=true:=by kernel_rfl
theorem Z95:cQ 169 Z2m=true:=by kernel_rfl
theorem Za2:cQ 170 Qyb=true:=by kernel_rfl
theorem Z8y:cQ 171 Z2a=true:=by kernel_rfl
theorem Z9p:cQ 172 Z0t=true:=by kernel_rfl
theorem Z5p:cQ 173 Qx3=true:=by kernel_rfl
theorem Z6c:cQ 174 Z40=true:=by kernel_rfl
theorem Z0i:cQ 175 Z0b=true:=by kernel_rfl
theorem Z2s:cQ 176 Quu=true:=by kernel_rfl
theorem Z6j:cQ 177 Qy6=true:=by kernel_rfl
theorem Qzy:cQ 179 Qx9=true:=by kernel_rfl
theorem Z2w:cQ 180 Qvb=true:=by kernel_rfl
theorem Z2f:cQ 181 Z3q=true:=by kernel_rfl
theorem Qvs:cQ 182 Z2t=true:=by kernel_rfl
theorem Qzz:cQ 183 Qwm=true:=by kernel_rfl
theorem Qyg:cQ 184 Qwj=true:=by kernel_rfl
theorem Z3k:cQ 185 Qvz=true:=by kernel_rfl
end
end Go.Av
namespace Go.Av
noncomputable section
open Go.Proofs
set_option maxRecDepth 100000
theorem Z37:cQ 186 Z3p=true:=by kernel_rfl
theorem Z2p:cQ 187 Z01=true:=by kernel_rfl
theorem Qum:cQ 188 Z17=true:=by kernel_rfl
theorem Qxv:cQ 189 Z0c=true:=by kernel_rfl
theorem Z58:cQ 190 Qw8=true:=by kernel_rfl
theorem Z5r:cQ 191 Qv6=true:=by kernel_rfl
theorem Z6z:cQ 192 Z0a=true:=by kernel_rfl
theorem Z69:cQ 193 Z0n=true:=by kernel_rfl
theorem Z9e:cQ 194 Z46=true:=by kernel_rfl
theorem Z8m:cQ 195 Z1x=true:=by kernel_rfl
theorem Z8k:cQ 196 Z4p=true:=by kernel_rfl
theorem Z5b:cQ 197 Z05=true:=by kernel_rfl
theorem Z7g:cQ 198 Z32=true:=by kernel_rfl
theorem Za7:cQ 199 Qwo=true:=by kernel_rfl
theorem Z7m:cQ 200 Z1b=true:=by kernel_rfl
theorem Z5o:cQ 201 Z1z=true:=by kernel_rfl
theorem Z9t:cQ 202 Qxz=true:=by kernel_rfl
theorem Z5j:cQ 203 Z3b=true:=by kernel_rfl
theorem Z6v:cQ 204 Z1a=true:=by kernel_rfl
theorem Z9z:cQ 205 Z25=true:=by kernel_rfl
theorem Z7f:cQ 206 Z08=true:=by kernel_rfl
theorem Z5s:cQ 207 Z1t=true:=by kernel_rfl
theorem Z4u:cQ 208 Z0j=true:=by kernel_rfl
theorem Z8d:cQ 209 Qvn=true:=by kernel_rfl
theorem Qmr:cQ 210 Qza=true:=by kernel_rfl
theorem Qkd:cQ 211 Quj=true:=by kernel_rfl
theorem Qih:cQ 212 Z2n=true:=by kernel_rfl
theorem Qpu:cQ 213 Qzp=true:=by kernel_rfl
theorem Qvj:cQ 214 Qvp=true:=by kernel_rfl
theorem Z7h:cQ 215 Z3t=true:=by kernel_rfl
theorem Z5w:cQ 216 Qxl=true:=by kernel_rfl
theorem Z8l:cQ 217 Z49=true:=by kernel_rfl
theorem Z7x:cQ 218 Qw6=true:=by kernel_rfl
theorem Z7u:cQ 219 Z0y=true:=by kernel_rfl
theorem Qy8:cQ 220 Z3w=true:=by kernel_rfl
theorem Qz7:cQ 221 Qvt=true:=by kernel_rfl
theorem Z9a:cQ 222 Qz3=true:=by kernel_rfl
theorem Z7k:cQ 223 Qz2=true:=by kernel_rfl
theorem Z9m:cQ 224 Qzv=true:=by kernel_rfl
theorem Z8w:cQ 225 Z2l=true:=by kernel_rfl
theorem Z9x:cQ 226 Z1o=true:=by kernel_rfl
theorem Z7b:cQ 227 Qzr=true:=by kernel_rfl
theorem Z5n:cQ 228 Qz9=true:=by kernel_rfl
theorem Z96:cQ 229 Z00=true:=by kernel_rfl
theorem Z9v:cQ 230 Z0q=true:=by kernel_rfl
theorem Z98:cQ 231 Qzd=true:=by kernel_rfl
theorem Z6q:cQ 232 Qyd=true:=by kernel_rfl
end
end Go.Av
namespace Go.Av
noncomputable section
open Go.Proofs
set_option maxRecDepth 100000
theorem Z5f:cQ 233 Qy3=true:=by kernel_rfl
theorem Z88:cQ 234 Z4o=true:=by kernel_rfl
theorem Z64:cQ 235 Qzi=true:=by kernel_rfl
theorem Z6g:cQ 236 Qyz=true:=by kernel_rfl
theorem Z5a:cQ 237 Qz4=true:=by kernel_rfl
theorem Z8b:cQ 238 Qyu=true:=by kernel_rfl
theorem Za5:cQ 239 Qz5=true:=by kernel_rfl
theorem Qyn:cQ 240 Z3r=true:=by kernel_rfl
theorem Qvl:cQ 241 Z1k=true:=by kernel_rfl
theorem Z3l:cQ 242 Qwy=true:=by kernel_rfl
theorem Z72:cQ 243 Z0p=true:=by kernel_rfl
theorem Z77:cQ 245 Qxc=true:=by kernel_rfl
theorem Z8v:cQ 246 Z4g=true:=by kernel_rfl
theorem Zag:cQ 247 Qxx=true:=by kernel_rfl
theorem Z81:cQ 248 Z3n=true:=by kernel_rfl
theorem Z60:cQ 249 Qzt=true:=by kernel_rfl
theorem Z7y:cQ 250 Qxb=true:=by kernel_rfl
theorem Z6s:cQ 251 Quz=true:=by kernel_rfl
theorem Z6a:cQ 252 Qw1=true:=by kernel_rfl
theorem Z93:cQ 253 Qwr=true:=by kernel_rfl
theorem Z5t:cQ 254 Qx8=true:=by kernel_rfl
theorem Z59:cQ 255 Qyo=true:=by kernel_rfl
theorem Z6n:cQ 256 Z3y=true:=by kernel_rfl
theorem Z5z:cQ 257 Qy4=true:=by kernel_rfl
theorem Z80:cQ 258 Z13=true:=by kernel_rfl
theorem Z9k:cQ 259 Qy9=true:=by kernel_rfl
theorem Z6i:cQ 260 Qvi=true:=by kernel_rfl
theorem Z8z:cQ 261 Z36=true:=by kernel_rfl
theorem Z78:cQ 262 Qz6=true:=by kernel_rfl
theorem Z89:cQ 263 Qxk=true:=by kernel_rfl
theorem Z8o:cQ 264 Quq=true:=by kernel_rfl
theorem Z90:cQ 265 Qzk=true:=by kernel_rfl
theorem Z7o:cQ 266 Qzu=true:=by kernel_rfl
theorem Z8n:cQ 267 Qww=true:=by kernel_rfl
theorem Zai:cQ 268 Qzj=true:=by kernel_rfl
theorem Z5q:cQ 269 Qwq=true:=by kernel_rfl
theorem Z99:cQ 270 Z1j=true:=by kernel_rfl
theorem Z9h:cQ 271 Qw7=true:=by kernel_rfl
theorem Z9b:cQ 272 Qvu=true:=by kernel_rfl
theorem Za8:cQ 273 Qye=true:=by kernel_rfl
theorem Z91:cQ 274 Z2g=true:=by kernel_rfl
theorem Z5d:cQ 275 Z1g=true:=by kernel_rfl
theorem Z5x:cQ 276 Qwh=true:=by kernel_rfl
theorem Z6p:cQ 277 Qx2=true:=by kernel_rfl
theorem Z7z:cQ 278 Qv9=true:=by kernel_rfl
theorem Z57:cQ 279 Qul=true:=by kernel_rfl
theorem Z8c:cQ 280 Z3m=true:=by kernel_rfl
theorem Qys:cQ 281 Z1c=true:=by kernel_rfl
theorem Z1e:cQ 282 Qwv=true:=by kernel_rfl
end
end Go.Av
namespace Go.Av
noncomputable section
open Go.Proofs
set_option maxRecDepth 100000
theorem Z3c:cQ 284 Z10=true:=by kernel_rfl
theorem Z8a:cQ 285 Z21=true:=by kernel_rfl
theorem Z9r:cQ 286 Qws=true:=by kernel_rfl
theorem Z4y:cQ 287 Z39=true:=by kernel_rfl
theorem Z55:cQ 288 Qyw=true:=by kernel_rfl
theorem Z7s:cQ 289 Qxo=true:=by kernel_rfl
theorem Za1:cQ 290 Z3g=true:=by kernel_rfl
theorem Z4z:cQ 291 Qv1=true:=by kernel_rfl
theorem Z6e:cQ 292 Z3o=true:=by kernel_rfl
theorem Z5i:cQ 293 Z2v=true:=by kernel_rfl
theorem Z85:cQ 294 Qun=true:=by kernel_rfl
theorem Z6b:cQ 295 Z2e=true:=by kernel_rfl
theorem Zak:cQ 296 Qzl=true:=by kernel_rfl
theorem Z7c:cQ 297 Z2k=true:=by kernel_rfl
theorem Z8p:cQ 298 Z0k=true:=by kernel_rfl
theorem Zaa:cQ 299 Z0m=true:=by kernel_rfl
theorem Z94:cQ 300 Z4q=true:=by kernel_rfl
theorem Z52:cQ 301 Z4l=true:=by kernel_rfl
theorem Z84:cQ 302 Z09=true:=by kernel_rfl
theorem Z6k:cQ 303 Z4e=true:=by kernel_rfl
theorem Z7p:cQ 304 Z2z=true:=by kernel_rfl
theorem Zad:cQ 305 Qy2=true:=by kernel_rfl
theorem Z67:cQ 306 Qxe=true:=by kernel_rfl
theorem Z83:cQ 307 Qxu=true:=by kernel_rfl
theorem Z9j:cQ 308 Z31=true:=by kernel_rfl
theorem Z9w:cQ 309 Z47=true:=by kernel_rfl
theorem Z6t:cQ 310 Qze=true:=by kernel_rfl
theorem Z5m:cQ 311 Z43=true:=by kernel_rfl
theorem Z5k:cQ 312 Qup=true:=by kernel_rfl
theorem Z51:cQ 313 Qx6=true:=by kernel_rfl
theorem Z6u:cQ 314 Qwn=true:=by kernel_rfl
theorem Z9q:cQ 315 Z1n=true:=by kernel_rfl
theorem Z8h:cQ 316 Qz8=true:=by kernel_rfl
theorem Z76:cQ 317 Z0h=true:=by kernel_rfl
theorem Z6f:cQ 318 Qxn=true:=by kernel_rfl
theorem Z4a:cQ 319 Qvw=true:=by kernel_rfl
theorem Z7l:cQ 320 Z0l=true:=by kernel_rfl
end
end Go.Av
namespace Go.Av
noncomputable section
open Go.Proofs
set_option maxRecDepth 100000
theorem Z5l:cQ 321 Qwb=true:=by kernel_rfl
theorem Z7t:cQ 322 Qyl=true:=by kernel_rfl
theorem Z66:cQ 323 Qzc=true:=by kernel_rfl
theorem Zaj:cQ 324 Z4k=true:=by kernel_rfl
theorem Za0:cQ 325 Qzx=true:=by kernel_rfl
theorem Za3:cQ 326 Z4i=true:=by kernel_rfl
theorem Z6l:cQ 327 Z3s=true:=by kernel_rfl
theorem Z9d:cQ 328 Qve=true:=by kernel_rfl
theorem Z9u:cQ 329 Qxr=true:=by kernel_rfl
theorem Z9l:cQ 330 Z06=true:=by kernel_rfl
theorem Z8u:cQ 331 Qwp=true:=by kernel_rfl
theorem Z9c:cQ 332 Z02=true:=by kernel_rfl
theorem Z92:cQ 333 Qwx=true:=by kernel_rfl
theorem Z75:cQ 334 Z4j=true:=by kernel_rfl
theorem Z8j:cQ 335 Z35=true:=by kernel_rfl
theorem Z9i:cQ 336 Z0u=true:=by kernel_rfl
theorem Z87:cQ 337 Z3j=true:=by kernel_rfl
theorem Z9o:cQ 338 Z4h=true:=by kernel_rfl
theorem Z7i:cQ 339 Qzo=true:=by kernel_rfl
theorem Z6r:cQ 340 Z3a=true:=by kernel_rfl
theorem Z56:cQ 341 Z0e=true:=by kernel_rfl
theorem Z7q:cQ 342 Qy7=true:=by kernel_rfl
theorem Z5h:cQ 343 Z2q=true:=by kernel_rfl
theorem Z7e:cQ 344 Z1m=true:=by kernel_rfl
theorem Za4:cQ 345 Qyq=true:=by kernel_rfl
theorem Z6o:cQ 346 Z0z=true:=by kernel_rfl
theorem Z6y:cQ 347 Qwc=true:=by kernel_rfl
theorem Zac:cQ 348 Z0w=true:=by kernel_rfl
theorem Z68:cQ 349 Qzf=true:=by kernel_rfl
theorem Z9g:cQ 350 Qyt=true:=by kernel_rfl
theorem Z71:cQ 351 Z22=true:=by kernel_rfl
theorem Z8t:cQ 352 Z0d=true:=by kernel_rfl
theorem Z9y:cQ 353 Z2o=true:=by kernel_rfl
theorem Z6h:cQ 354 Z3h=true:=by kernel_rfl
theorem Z7v:cQ 355 Z42=true:=by kernel_rfl
theorem Z9s:cQ 356 Qwf=true:=by kernel_rfl
theorem Z4t:cQ 357 Z2y=true:=by kernel_rfl
theorem Z8i:cQ 358 Z19=true:=by kernel_rfl
theorem Z61:cQ 359 Z3f=true:=by kernel_rfl
theorem Z79:cQ 360 Z4f=true:=by kernel_rfl
theorem Z7r:cQ 361 Qvr=true:=by kernel_rfl
theorem Za9:cQ 362 Qxj=true:=by kernel_rfl
end
end Go.Av
namespace Go.Av
noncomputable section
open Go.Proofs
set_option maxRecDepth 100000
theorem Zab:cQ 363 Z29=true:=by kernel_rfl
theorem Z5y:cQ 364 Quk=true:=by kernel_rfl
theorem Z8f:cQ 367 Qwt=true:=by kernel_rfl
theorem Zah:cQ 368 Z28=true:=by kernel_rfl
theorem Z70:cQ 369 Z3z=true:=by kernel_rfl
theorem Z8r:cQ 370 Z11=true:=by kernel_rfl
theorem Z5c:cQ 371 Z3x=true:=by kernel_rfl
theorem Z86:cQ 372 Z3e=true:=by kernel_rfl
theorem Z65:cQ 373 Z41=true:=by kernel_rfl
theorem Z6d:cQ 374 Z4m=true:=by kernel_rfl
theorem Z3u:cQ 391 Z4b=true:=by kernel_rfl
theorem Qw5:cQ 392 Z18=true:=by kernel_rfl
theorem Z23:cQ 393 Qxw=true:=by kernel_rfl
theorem Qu8:cQ 394 Z2c=true:=by kernel_rfl
theorem Qxf:cQ 395 Z1v=true:=by kernel_rfl
theorem Qv8:cQ 396 Qy1=true:=by kernel_rfl
theorem Qwd:cQ 397 Qus=true:=by kernel_rfl
theorem Qv4:cQ 398 Qyc=true:=by kernel_rfl
theorem Qsx:cQ 399 Z1y=true:=by kernel_rfl
theorem Qug:cQ 400 Qwg=true:=by kernel_rfl
theorem Qt4:cQ 401 Qyv=true:=by kernel_rfl
theorem Z2i:cQ 402 Z0g=true:=by kernel_rfl
theorem Qym:cQ 403 Z4n=true:=by kernel_rfl
theorem Z97:cQ 404 Qvc=true:=by kernel_rfl
theorem Qyx:cQ 405 Z16=true:=by kernel_rfl
end
end Go.Av

