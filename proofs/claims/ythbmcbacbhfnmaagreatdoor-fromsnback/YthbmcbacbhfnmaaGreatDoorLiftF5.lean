/- Part of FromsnBack: the law returns true; no condition. -/
import Derived.Test.YthbmcbacbhfnmaaGreatDoorLiftF4
import Derived.Test.YthbmcbacbhfnmaaGreatDoorLiftTy
import Derived.Test.YthbmcbacbhfnmaaGreatDoorAvBridges
set_option linter.all false
namespace Go.Av
noncomputable section
open Go.Proofs
set_option maxRecDepth 100000
set_option maxHeartbeats 4000000
attribute [local irreducible] Wz Qq Qaj Qa1 Z03 Qpy Qjw
section
def Ye (N:Nat) (t:List Qi) (client:List UInt8) (d:Qb) (e:Qg):Nat->Int->(List Q5)->Reg->Option Bool
 | 0,_,_,_=>none
 | n+1,i101,Qpu,R103=>
  cond (Q0 .lss i101 ((Q7 Qi.cells t).length:Int))
  ((idx t i101).bind fun y105=>
  cond (Q0 .eql y105.ID 0)
  ((idx t i101).bind fun y112=>
  (idx t i101).bind fun y114=>
  (Q3t N R103 y112.Client y114.Name).bind fun v116=>
  (idx t i101).bind fun y118=>
  (idx t i101).bind fun y120=>
  (Yc N (⟨Qpu⟩:Q2) y118.Client y120.Name).bind fun v122=>
  Ye N t client d e n (IntKind.wrap .i64 (i101+1)) v122.2.L v116.2)
  ((idx t i101).bind fun y130=>
  (idx t i101).bind fun y132=>
  (idx t i101).bind fun y134=>
  (Q2u N R103 y130.Client y132.Name y134.ID).bind fun v136=>
  (idx t i101).bind fun y138=>
  (idx t i101).bind fun y140=>
  (idx t i101).bind fun y142=>
  (Y4 N (⟨Qpu⟩:Q2) y138.Client y140.Name y142.ID).bind fun v144=>
  Ye N t client d e n (IntKind.wrap .i64 (i101+1)) v144.2.L v136.2))
  ((Q0w N R103 client d).bind fun v146=>
  cond (Q0 .eql v146.1.2 0)
  ((Uj N v146.2 client v146.1.1).bind fun v149=>
  cond (Q0 .neq v149.1.2 0)
  (some false)
  ((Xz N v149.1.1 d).bind fun v152=>
  cond (!v152)
  (some false)
  ((Xs N).bind fun v155=>
  (U4 N v146.1.1 v155).bind fun v157=>
  cond (Q0 .neq v157 0)
  (some false)
  ((Uj N v149.2 client e).bind fun v160=>
  cond (Q0 .eql v160.1.2 0)
  ((Q0w N v160.2 client v160.1.1).bind fun v163=>
  cond (Q0 .neq v163.1.2 0)
  (some false)
  ((Xp N v163.1.1 e).bind fun v166=>
  cond (!v166)
  (some false)
  ((Gt N v163.2 client).bind fun v169=>
  (Qf N (⟨Qpu⟩:Q2) client).bind fun v171=>
  (Qw N v169.1 v171.1).bind fun v173=>
  cond v173
  ((Jm N v169.2).bind fun v176=>
  (Qp N v171.2).bind fun v178=>
  (Z4 N v176.1 v178.1).bind fun v180=>
  some v180)
  (some false))))
  ((Gt N v160.2 client).bind fun v182=>
  (Qf N (⟨Qpu⟩:Q2) client).bind fun v184=>
  (Qw N v182.1 v184.1).bind fun v186=>
  cond v186
  ((Jm N v182.2).bind fun v189=>
  (Qp N v184.2).bind fun v191=>
  (Z4 N v189.1 v191.1).bind fun v193=>
  some v193)
  (some false))))))
  ((Xs N).bind fun v195=>
  (X5 N d v195).bind fun v197=>
  cond (Q0 .eql v197 0)
  (cond (Q0 .neq v146.1.2 11)
  (some false)
  (cond (Q0 .neq d.Msg.Type' 12)
  (some false)
  ((Uj N v146.2 client e).bind fun v202=>
  cond (Q0 .eql v202.1.2 0)
  ((Q0w N v202.2 client v202.1.1).bind fun v205=>
  cond (Q0 .neq v205.1.2 0)
  (some false)
  ((Xp N v205.1.1 e).bind fun v208=>
  cond (!v208)
  (some false)
  ((Gt N v205.2 client).bind fun v211=>
  (Qf N (⟨Qpu⟩:Q2) client).bind fun v213=>
  (Qw N v211.1 v213.1).bind fun v215=>
  cond v215
  ((Jm N v211.2).bind fun v218=>
  (Qp N v213.2).bind fun v220=>
  (Z4 N v218.1 v220.1).bind fun v222=>
  some v222)
  (some false))))
  ((Gt N v202.2 client).bind fun v224=>
  (Qf N (⟨Qpu⟩:Q2) client).bind fun v226=>
  (Qw N v224.1 v226.1).bind fun v228=>
  cond v228
  ((Jm N v224.2).bind fun v231=>
  (Qp N v226.2).bind fun v233=>
  (Z4 N v231.1 v233.1).bind fun v235=>
  some v235)
  (some false)))))
  ((Uj N v146.2 client e).bind fun v237=>
  cond (Q0 .eql v237.1.2 0)
  ((Q0w N v237.2 client v237.1.1).bind fun v240=>
  cond (Q0 .neq v240.1.2 0)
  (some false)
  ((Xp N v240.1.1 e).bind fun v243=>
  cond (!v243)
  (some false)
  ((Gt N v240.2 client).bind fun v246=>
  (Qf N (⟨Qpu⟩:Q2) client).bind fun v248=>
  (Qw N v246.1 v248.1).bind fun v250=>
  cond v250
  ((Jm N v246.2).bind fun v253=>
  (Qp N v248.2).bind fun v255=>
  (Z4 N v253.1 v255.1).bind fun v257=>
  some v257)
  (some false))))
  ((Gt N v237.2 client).bind fun v259=>
  (Qf N (⟨Qpu⟩:Q2) client).bind fun v261=>
  (Qw N v259.1 v261.1).bind fun v263=>
  cond v263
  ((Jm N v259.2).bind fun v266=>
  (Qp N v261.2).bind fun v268=>
  (Z4 N v266.1 v268.1).bind fun v270=>
  some v270)
  (some false)))))
def V9 (N:Nat) (t:List Qi) (client:List UInt8) (d:Qb) (e:Qg):Option Bool:=
 (Q6b N).bind fun v1=>
 cond (!v1)
 (some false)
 ((Q0k N t).bind fun v4=>
 cond (!v4)
 (some true)
 (cond (Q0 .gtr (client.length:Int) 100)
 (some true)
 ((Ww N d).bind fun v8=>
 cond (!v8)
 (some true)
 ((Jw N e).bind fun v11=>
 cond (!v11)
 (some true)
 (Ye N t client d e N 0 [] [])))))
def Q6n {N} {t} {client} {d} {e} {r} (h:V9 N t client d e=some r):pU 3 [.slice 3 (Q7 Qi.cells t),.str client,.agg (Qb.cells d),.agg (Qg.cells e)] (.bool r):=by
 refine Q1 k3 ?_;unfold V9 at h;rw [cX] at h;refine cP h Q8p p0 fun v1 h=>iL h fun h=>cP h Q9a p1 fun v4 h=>iL h fun h=>iL h fun h=>cP h Q1l (.cons (Ar (f8_ za)) .nil) fun v8 h=>iL h fun h=>cP h Q7f (.cons (Ar (Vl (Vl (Vl za)))) .nil) fun v11 h=>iL h fun h=>Q8 k8 (Z2s Z7e 2 rfl ?_);refine Q8 k29 (lpC (τ:=Int×(List Q5)×Reg) (fun ⟨i101,_,_⟩=>(.p (.slice 3 (Q7 Qi.cells t))::a2 (.any :: .ptr 2 0 :: .ptr 4 0::iI i101::a16 (a16 (a16 (a16 (a8 (a2 ([]))))))):List AV)) (fun ⟨_,Qpu,R103⟩=>(.cells (Qrg d ([])) :: .cells (Q5z e ([])) :: .dead :: .dead :: .cells (.p (.slice 2 (Q7 Q5.cells Qpu)) :: []) :: .ext R103 2 :: []:List AObj)) (fun n0 ⟨i101,Qpu,R103⟩=>Ye N t client d e n0 i101 Qpu R103) (0,[],[]) h (rho [0,1,2,3,4,3]) ⟨(rE rfl <| rW <| rA <| rE rfl <| rE rfl <| rE rfl <| rX <| rX <| rX <| rX <| rX <| rX <| rX <| rX <| rX <| rW <| rN),(hE rfl <| hE rfl <| hD <| hD <| hC rfl (rF (.nil _) <| rN) <| hE rfl <| hN),rfl,rfl,(roE rfl <| roE rfl <| roE rfl <| roE rfl <| roE rfl <| roE rfl <| roN)⟩ fun n0 ⟨i101,Qpu,R103⟩ h=>?_)
 first | rw [Ye] at h | simp only [Ye] at h
 rw [cX] at h;apply iU h<;>intro h
 ·refine xR h fun y105 h=>?_;apply iU h<;>intro h
  ·refine Q2c 11 rfl rfl (xR h fun y112 h=>?_);refine xR h fun y114 h=>cRg h Qeu (b:=5) rfl p2 fun v116 h=>Qd (xR h fun y118 h=>?_);refine xR h fun y120 h=>dM h Q3u rfl p2 fun v122 h=>?_;show Exists _;exact ⟨(n0,(IntKind.wrap .i64 (i101+1)),v122.2.L,v116.2),h,Lc _,(rho [0,1,2,3,4,6]),Z6⟩
  refine Q2c 16 rfl rfl (xR h fun y130 h=>?_);refine xR h fun y132 h=>xR h fun y134 h=>cRg h Qds (b:=5) rfl p3 fun v136 h=>Qd (xR h fun y138 h=>?_);refine xR h fun y140 h=>xR h fun y142 h=>dM h Q3e rfl p3 fun v144 h=>?_;show Exists _;exact ⟨(n0,(IntKind.wrap .i64 (i101+1)),v144.2.L,v136.2),h,Lc _,(rho [0,1,2,3,4,6]),Z6⟩
 refine cRg h Q61 (b:=5) rfl (.cons (.p _) (.cons (Ar (f8_ za)) .nil)) fun v146 h=>?_;apply iU h<;>intro h
 ·refine cRg h Q3y (b:=6) rfl (.cons (.p _) (.cons (Ar (Vl (Vl (Vl za)))) .nil)) fun v149 h=>Qd (iL h fun h=>?_);refine cD h Q6p (.cons (Ar (f8_ za)) (.cons (Ar (f8_ za)) .nil)) fun v152 h=>iL h fun h=>cD h Q07 p0 fun v155 h=>cD h Q92 (.cons (Ar (Vl (Vl (Vl za)))) p1) fun v157 h=>iL h fun h=>cRg h Q3y (b:=8) rfl (.cons (.p _) (.cons (Ar (Vl (Vl (Vl za)))) .nil)) fun v160 h=>?_;apply iU h<;>intro h
  ·refine cRg h Q61 (b:=10) rfl (.cons (.p _) (.cons (Ar (f8_ za)) .nil)) fun v163 h=>iL h fun h=>cP h Gq (.cons (Ar (Vl (Vl (Vl za)))) (.cons (Ar (Vl (Vl (Vl za)))) .nil)) fun v166 h=>iL h fun h=>cRg h Q1h (b:=12) rfl p1 fun v169 h=>cM h Z8 rfl p1 fun v171 h=>cP h Ys p2 fun v173 h=>iR h fun h=>cRg h Q0h (b:=14) rfl p0 fun v176 h=>cM h Zz rfl p0 fun v178 h=>cP h Xf p2 fun v180 h=>?_;exact am
  refine cRg h Q1h (b:=10) rfl p1 fun v182 h=>cM h Z8 rfl p1 fun v184 h=>cP h Ys p2 fun v186 h=>iR h fun h=>cRg h Q0h (b:=12) rfl p0 fun v189 h=>cM h Zz rfl p0 fun v191 h=>cP h Xf p2 fun v193 h=>?_;exact am
 refine Qd (cD h Q07 p0 fun v195 h=>?_);refine cD h Q1b (.cons (Ar (f8_ za)) p1) fun v197 h=>?_;apply iU h<;>intro h
 ·refine iL h fun h=>iL h fun h=>cRg h Q3y (b:=6) rfl (.cons (.p _) (.cons (Ar (Vl (Vl (Vl za)))) .nil)) fun v202 h=>?_;apply iU h<;>intro h
  ·refine cRg h Q61 (b:=8) rfl (.cons (.p _) (.cons (Ar (f8_ za)) .nil)) fun v205 h=>iL h fun h=>cP h Gq (.cons (Ar (Vl (Vl (Vl za)))) (.cons (Ar (Vl (Vl (Vl za)))) .nil)) fun v208 h=>iL h fun h=>cRg h Q1h (b:=10) rfl p1 fun v211 h=>cM h Z8 rfl p1 fun v213 h=>cP h Ys p2 fun v215 h=>iR h fun h=>cRg h Q0h (b:=12) rfl p0 fun v218 h=>cM h Zz rfl p0 fun v220 h=>cP h Xf p2 fun v222 h=>?_;exact am
  refine cRg h Q1h (b:=8) rfl p1 fun v224 h=>cM h Z8 rfl p1 fun v226 h=>cP h Ys p2 fun v228 h=>iR h fun h=>cRg h Q0h (b:=10) rfl p0 fun v231 h=>cM h Zz rfl p0 fun v233 h=>cP h Xf p2 fun v235 h=>?_;exact am
 refine cRg h Q3y (b:=6) rfl (.cons (.p _) (.cons (Ar (Vl (Vl (Vl za)))) .nil)) fun v237 h=>?_;apply iU h<;>intro h
 ·refine cRg h Q61 (b:=8) rfl (.cons (.p _) (.cons (Ar (f8_ za)) .nil)) fun v240 h=>iL h fun h=>cP h Gq (.cons (Ar (Vl (Vl (Vl za)))) (.cons (Ar (Vl (Vl (Vl za)))) .nil)) fun v243 h=>iL h fun h=>cRg h Q1h (b:=10) rfl p1 fun v246 h=>cM h Z8 rfl p1 fun v248 h=>cP h Ys p2 fun v250 h=>iR h fun h=>cRg h Q0h (b:=12) rfl p0 fun v253 h=>cM h Zz rfl p0 fun v255 h=>cP h Xf p2 fun v257 h=>?_;exact am
 refine cRg h Q1h (b:=8) rfl p1 fun v259 h=>cM h Z8 rfl p1 fun v261 h=>cP h Ys p2 fun v263 h=>iR h fun h=>cRg h Q0h (b:=10) rfl p0 fun v266 h=>cM h Zz rfl p0 fun v268 h=>cP h Xf p2 fun v270 h=>?_;exact am
end
end
end Go.Av
namespace Go.Av
noncomputable section
set_option maxRecDepth 100000
inductive OkV:Q4->Prop
 | mk (k n:Int) (t:List UInt8) (is:List Q4) (hk:IntKind.i64.min≤k∧k≤IntKind.i64.max) (hn:0≤n∧n<18446744073709551616) (ht:t.length≤maxLen) (hl:is.length≤maxLen) (hi:∀ v∈is,OkV v):OkV ⟨k,n,t,is⟩
def OkV.kind {v:Q4} (h:OkV v):IntKind.i64.min≤v.Kind∧v.Kind≤IntKind.i64.max:=dr
def OkV.num {v:Q4} (h:OkV v):0≤v.N'∧v.N'<18446744073709551616:=dr
def OkV.txt {v:Q4} (h:OkV v):v.Text.length≤maxLen:=dr
def OkV.len {v:Q4} (h:OkV v):v.Items.length≤maxLen:=dr
def OkV.items {v:Q4} (h:OkV v):∀ x∈v.Items,OkV x:=dr
def Z1n (rows:List (List PV)) (h:∀ r∈rows,∃ v:Q4,r=v.cells∧OkV v):∃ l:List Q4,rows=Q4.rows l∧∀ v∈l,OkV v:=by
 induction rows with
 | nil=>exact ⟨[],by simp [Q4.rows],fun v hv=>by cases hv⟩
 | cons r rows ih=>
  obtain ⟨v,rfl,hv⟩:=h r (.head _);obtain ⟨l,rfl,hl⟩:=ih (fun r hr=>h r (.tail _ hr));refine ⟨v::l,by simp only [Q4.rows,Q4.cells_eq],fun u hu=>?_⟩
  rcases Lx.1 hu with rfl | hu
  ·exact hv
  exact hl u hu
def Qng (l:List Q4):(Q4.rows l).length=l.length:=by rw [Q4.rows_eq,Q6]
end
end Go.Av
