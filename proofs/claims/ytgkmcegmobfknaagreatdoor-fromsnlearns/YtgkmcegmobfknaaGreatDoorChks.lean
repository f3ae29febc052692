/- Part of FromsnLearns: the law returns true; no condition. -/
import Derived.Test.YtgkmcegmobfknaaGreatDoorCode1
import Derived.Test.YtgkmcegmobfknaaGreatDoorAvChk
import Derived.KernelRfl
import Derived.Test.YtgkmcegmobfknaaGreatDoorProg
import Derived.Test.YtgkmcegmobfknaaGreatDoorTpTopB
import Derived.Test.YtgkmcegmobfknaaGreatDoorRegS
import Derived.Test.YtgkmcegmobfknaaGreatDoorAvClosed4
import Derived.Test.YtgkmcegmobfknaaGreatDoorAvSelf
set_option linter.all false
namespace Go.Av
noncomputable section
open Go.Proofs
set_option maxRecDepth 100000
abbrev cQ:=Q0t Tryz.prog
theorem k3:cQ 3 c3=true:=by kernel_rfl
theorem k4:cQ 4 c4=true:=by kernel_rfl
theorem k5:cQ 5 c5=true:=by kernel_rfl
theorem k6:cQ 6 c6=true:=by kernel_rfl
theorem k7:cQ 7 c7=true:=by kernel_rfl
theorem k8:cQ 8 c8=true:=by kernel_rfl
theorem k9:cQ 9 c9=true:=by kernel_rfl
theorem k10:cQ 10 c10=true:=by kernel_rfl
theorem k11:cQ 11 c11=true:=by kernel_rfl
theorem k12:cQ 12 c12=true:=by kernel_rfl
theorem k13:cQ 13 c13=true:=by kernel_rfl
theorem k14:cQ 14 c14=true:=by kernel_rfl
theorem k15:cQ 15 c15=true:=by kernel_rfl
theorem k16:cQ 16 c16=true:=by kernel_rfl
theorem k17:cQ 17 c17=true:=by kernel_rfl
theorem k18:cQ 18 c18=true:=by kernel_rfl
theorem k19:cQ 19 c19=true:=by kernel_rfl
theorem k20:cQ 20 c20=true:=by kernel_rfl
theorem k21:cQ 21 c21=true:=by kernel_rfl
theorem k22:cQ 22 c22=true:=by kernel_rfl
theorem k23:cQ 23 c23=true:=by kernel_rfl
theorem k24:cQ 24 c24=true:=by kernel_rfl
theorem k25:cQ 25 c25=true:=by kernel_rfl
theorem k26:cQ 26 c26=true:=by kernel_rfl
theorem k27:cQ 27 c27=true:=by kernel_rfl
theorem k28:cQ 28 c28=true:=by kernel_rfl
theorem k29:cQ 29 c29=true:=by kernel_rfl
theorem k30:cQ 30 c30=true:=by kernel_rfl
theorem k31:cQ 31 c31=true:=by kernel_rfl
theorem k32:cQ 32 c32=true:=by kernel_rfl
theorem k33:cQ 33 c33=true:=by kernel_rfl
theorem k34:cQ 34 c34=true:=by kernel_rfl
theorem k35:cQ 35 c35=true:=by kernel_rfl
end
end Go.Av
namespace Go.Av
noncomputable section
open Go.Proofs
set_option maxRecDepth 100000
theorem k36:cQ 36 c36=true:=by kernel_rfl
theorem k37:cQ 37 c37=true:=by kernel_rfl
theorem k38:cQ 38 c38=true:=by kernel_rfl
theorem k39:cQ 39 c39=true:=by kernel_rfl
theorem k40:cQ 40 c40=true:=by kernel_rfl
theorem k41:cQ 41 c41=true:=by kernel_rfl
theorem k42:cQ 42 c42=true:=by kernel_rfl
theorem k43:cQ 43 c43=true:=by kernel_rfl
theorem k44:cQ 44 c44=true:=by kernel_rfl
theorem k45:cQ 45 c45=true:=by kernel_rfl
theorem k46:cQ 46 c46=true:=by kernel_rfl
theorem k47:cQ 47 c47=true:=by kernel_rfl
theorem k48:cQ 48 c48=true:=by kernel_rfl
theorem k49:cQ 49 c49=true:=by kernel_rfl
theorem k50:cQ 50 c50=true:=by kernel_rfl
theorem k51:cQ 51 c51=true:=by kernel_rfl
theorem k52:cQ 52 c52=true:=by kernel_rfl
theorem k53:cQ 53 c53=true:=by kernel_rfl
theorem k54:cQ 54 c54=true:=by kernel_rfl
theorem k55:cQ 55 c55=true:=by kernel_rfl
theorem k56:cQ 56 c56=true:=by kernel_rfl
theorem k57:cQ 57 c57=true:=by kernel_rfl
theorem k58:cQ 58 c58=true:=by kernel_rfl
theorem k59:cQ 59 c59=true:=by kernel_rfl
theorem k60:cQ 60 c60=true:=by kernel_rfl
theorem k61:cQ 61 c61=true:=by kernel_rfl
theorem k62:cQ 62 c62=true:=by kernel_rfl
theorem k63:cQ 63 c63=true:=by kernel_rfl
theorem k64:cQ 64 c64=true:=by kernel_rfl
theorem k65:cQ 65 c65=true:=by kernel_rfl
theorem k66:cQ 66 c66=true:=by kernel_rfl
theorem k67:cQ 67 c67=true:=by kernel_rfl
theorem k68:cQ 68 c68=true:=by kernel_rfl
theorem k69:cQ 69 c69=true:=by kernel_rfl
theorem k70:cQ 70 c70=true:=by kernel_rfl
theorem k71:cQ 71 c71=true:=by kernel_rfl
theorem k72:cQ 72 c72=true:=by kernel_rfl
theorem k73:cQ 73 c73=true:=by kernel_rfl
theorem k74:cQ 74 c74=true:=by kernel_rfl
theorem k75:cQ 75 c75=true:=by kernel_rfl
theorem k76:cQ 76 c76=true:=by kernel_rfl
theorem k77:cQ 77 c77=true:=by kernel_rfl
theorem k78:cQ 78 c78=true:=by kernel_rfl
theorem k79:cQ 79 c79=true:=by kernel_rfl
theorem k80:cQ 80 c80=true:=by kernel_rfl
theorem k81:cQ 81 c81=true:=by kernel_rfl
theorem k82:cQ 82 c82=true:=by kernel_rfl
end
end Go.Av
namespace Go.Av
noncomputable section
open Go.Proofs
set_option maxRecDepth 100000
theorem k83:cQ 83 c83=true:=by kernel_rfl
theorem k84:cQ 84 c84=true:=by kernel_rfl
theorem k85:cQ 85 c85=true:=by kernel_rfl
theorem k86:cQ 86 c86=true:=by kernel_rfl
theorem k87:cQ 87 c87=true:=by kernel_rfl
theorem k88:cQ 88 c88=true:=by kernel_rfl
theorem k89:cQ 89 c89=true:=by kernel_rfl
theorem k90:cQ 90 c90=true:=by kernel_rfl
theorem k91:cQ 91 c91=true:=by kernel_rfl
theorem k92:cQ 92 c92=true:=by kernel_rfl
theorem k93:cQ 93 c93=true:=by kernel_rfl
theorem k94:cQ 94 c94=true:=by kernel_rfl
theorem k95:cQ 95 c95=true:=by kernel_rfl
theorem k96:cQ 96 c96=true:=by kernel_rfl
theorem k97:cQ 97 c97=true:=by kernel_rfl
theorem k98:cQ 98 c98=true:=by kernel_rfl
theorem k99:cQ 99 c99=true:=by kernel_rfl
theorem Z69:cQ 100 Qr0=true:=by kernel_rfl
theorem Z3w:cQ 101 Z6b=true:=by kernel_rfl
theorem Z32:cQ 102 Z54=true:=by kernel_rfl
theorem Z3z:cQ 103 Z3q=true:=by kernel_rfl
theorem Z71:cQ 104 Z53=true:=by kernel_rfl
theorem Z2z:cQ 105 Z6m=true:=by kernel_rfl
theorem Z56:cQ 106 Z5q=true:=by kernel_rfl
theorem Z40:cQ 107 Z65=true:=by kernel_rfl
theorem Z6g:cQ 108 Z4t=true:=by kernel_rfl
theorem Z6z:cQ 109 Z4a=true:=by kernel_rfl
theorem Z6t:cQ 110 Z59=true:=by kernel_rfl
theorem Z5g:cQ 111 Z39=true:=by kernel_rfl
theorem Z7y:cQ 112 Z2t=true:=by kernel_rfl
theorem Z81:cQ 113 Z3k=true:=by kernel_rfl
theorem Z84:cQ 114 Z6o=true:=by kernel_rfl
theorem Z7s:cQ 115 Z72=true:=by kernel_rfl
theorem Z7h:cQ 116 Z33=true:=by kernel_rfl
theorem Z7r:cQ 117 Z44=true:=by kernel_rfl
theorem Qhv:cQ 118 Z66=true:=by kernel_rfl
theorem Z5x:cQ 119 Z30=true:=by kernel_rfl
theorem Z4y:cQ 120 Z3h=true:=by kernel_rfl
theorem Z5d:cQ 121 Z6l=true:=by kernel_rfl
end
end Go.Av
namespace Go.Av
noncomputable section
open Go.Proofs
set_option maxRecDepth 100000
theorem Z3a:cQ 122 Z5i=true:=by kernel_rfl
theorem Z48:cQ 123 Z60=true:=by kernel_rfl
theorem Z49:cQ 124 Z6n=true:=by kernel_rfl
theorem Z3s:cQ 125 Z4j=true:=by kernel_rfl
theorem Z41:cQ 126 Z4i=true:=by kernel_rfl
theorem Z2u:cQ 127 Z5n=true:=by kernel_rfl
theorem Z5c:cQ 128 Z4p=true:=by kernel_rfl
theorem Z3n:cQ 129 Z2s=true:=by kernel_rfl
theorem Z2y:cQ 130 Z4s=true:=by kernel_rfl
theorem Z3d:cQ 131 Z6f=true:=by kernel_rfl
theorem Z4x:cQ 132 Z36=true:=by kernel_rfl
theorem Z37:cQ 133 Z6u=true:=by kernel_rfl
theorem Z3r:cQ 134 Z6q=true:=by kernel_rfl
theorem Z6k:cQ 135 Z4d=true:=by kernel_rfl
theorem Z4n:cQ 136 Z2q=true:=by kernel_rfl
theorem Z4o:cQ 137 Z4g=true:=by kernel_rfl
theorem Z6d:cQ 138 Z3e=true:=by kernel_rfl
theorem Z64:cQ 139 Z42=true:=by kernel_rfl
theorem Z2w:cQ 140 Z6x=true:=by kernel_rfl
theorem Z31:cQ 141 Z68=true:=by kernel_rfl
theorem Z7l:cQ 142 Z6j=true:=by kernel_rfl
theorem Qsf:cQ 143 Z5m=true:=by kernel_rfl
theorem Z19:cQ 144 Z6r=true:=by kernel_rfl
theorem Z5r:cQ 145 Z51=true:=by kernel_rfl
theorem Z7c:cQ 146 Z5b=true:=by kernel_rfl
theorem Z12:cQ 147 Z50=true:=by kernel_rfl
theorem Qxz:cQ 148 Z70=true:=by kernel_rfl
theorem Z3j:cQ 149 Z46=true:=by kernel_rfl
theorem Z6s:cQ 150 Z6i=true:=by kernel_rfl
theorem Z5e:cQ 151 Z3f=true:=by kernel_rfl
theorem Z5k:cQ 152 Z3g=true:=by kernel_rfl
theorem Z74:cQ 153 Z4r=true:=by kernel_rfl
theorem Z63:cQ 154 Z4l=true:=by kernel_rfl
theorem Z7e:cQ 155 Z5t=true:=by kernel_rfl
theorem Qrx:cQ 157 Z2o=true:=by kernel_rfl
theorem Qnj:cQ 158 Z3p=true:=by kernel_rfl
theorem Qjf:cQ 159 Z5l=true:=by kernel_rfl
theorem Qwb:cQ 160 Z4k=true:=by kernel_rfl
theorem Z45:cQ 161 Z4c=true:=by kernel_rfl
theorem Z5v:cQ 162 Z3m=true:=by kernel_rfl
theorem Z4z:cQ 163 Z4b=true:=by kernel_rfl
theorem Z7w:cQ 164 Z5p=true:=by kernel_rfl
theorem Z3v:cQ 165 Z3o=true:=by kernel_rfl
theorem Z35:cQ 166 Z52=true:=by kernel_rfl
theorem Z4h:cQ 167 Z6y=true:=by kernel_rfl
theorem Z6c:cQ 169 Z5j=true:=by kernel_rfl
theorem Z6w:cQ 170 Z5z=true:=by kernel_rfl
theorem Z4m:cQ 172 Z4f=true:=by kernel_rfl
theorem Z5a:cQ 173 Z57=true:=by kernel_rfl
theorem Z7a:cQ 174 Z3l=true:=by kernel_rfl
end
end Go.Av
namespace Go.Av
noncomputable section
open Go.Proofs
set_option maxRecDepth 100000
theorem Z78:cQ 175 Z4u=true:=by kernel_rfl
theorem Z7t:cQ 192 Z3b=true:=by kernel_rfl
theorem Z4v:cQ 195 Z5u=true:=by kernel_rfl
theorem Z4q:cQ 196 Z5s=true:=by kernel_rfl
theorem Z5y:cQ 197 Z2x=true:=by kernel_rfl
theorem Z7u:cQ 199 Z5w=true:=by kernel_rfl
theorem Z3y:cQ 200 Z61=true:=by kernel_rfl
theorem Z3t:cQ 203 Z6h=true:=by kernel_rfl
theorem Z2p:cQ 205 Z3i=true:=by kernel_rfl
theorem Z2n:cQ 206 Z5h=true:=by kernel_rfl
theorem Z55:cQ 208 Z2v=true:=by kernel_rfl
end
end Go.Av
namespace Go.Av.Tp
open Go Go.Proofs
attribute [local irreducible] Ga Wb Qd Q4s Q3q Q2
set_option maxHeartbeats 1000000
variable {Gl:Nat->Option (List PV)}
section
variable {R:Reg} {c n:List UInt8} {id:Int} {i j:Nat} {C:RCl}
theorem Qgj {g:List (Nat×Nat)} (hg:g.length=R.length) (h:Yx c 0 R=some (i,C)) (hT:C.all.length≤1000000000):Qd Tryz.prog Gl 8 [.ptr 0 0,.p (.str c)] (Q4l R g i c C)
  (fun v H'=>∃ T':List RTp,T'.Perm C.all∧T'.Pairwise (fun a b=>a.1≤b.1)∧((T' = []∧v = .p .nilSlice∧H'=Q4l R g i c C ++ [.cells [.map 4]])∨(T' ≠ []∧v = .slice 3 7 0 T'.length∧H'=Q4l R g i c C ++ [.cells [.map 4],.cells (T'.flatMap Q7v)]))):=by
 refine Q6 k8 ?_;refine (Q6 k23 ?_:Qd Tryz.prog Gl 23 _ _ _);refine Xk (Xi R g 0 i hg h) ?_;refine (Q6 k25 ?_:Qd Tryz.prog Gl 25 _ _ _);refine (Y9 (Qyh (H:=Q4l R g i c C ++ [.cells [.map 4]]) (n:=6) (o:=0) (r:=4) (cs := [.map 4]) (T:=C.all) rfl rfl rfl hT) fun v H' hq=>?_:Qd Tryz.prog Gl 24 _ _ _);obtain ⟨T',hp,hq⟩:=hq
 rcases hq with ⟨rfl,rfl,rfl⟩ | ⟨hne,rfl,rfl⟩
 ·refine (Y9 (Qtm _ Z38) fun v H' hq=>?_:Qd Tryz.prog Gl 26 _ _ _);obtain ⟨rfl,rfl⟩:=hq;exact ⟨[],hp,.nil,.inl ⟨rfl,rfl,rfl⟩⟩
 refine (Y9 (Qz5 (H:=Q4l R g i c C ++ [.cells [.map 4],.cells (T'.flatMap Q7v)]) (n:=7) (T:=T') Z38 rfl (by rw [hp.length_eq];exact hT)) fun v H' hq=>?_:Qd Tryz.prog Gl 26 _ _ _);obtain ⟨T2,hp2,hs,rfl,rfl⟩:=hq;refine ⟨T2,hp2.trans hp,hs,.inr ⟨fun e=>hne (by subst e;exact Ef.1 (by rw [← hp2.length_eq];rfl)),?_,rfl⟩⟩;rw [hp2.length_eq];rfl
end
end Go.Av.Tp
