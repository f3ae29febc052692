/- Part of FromsnLearns: the law returns true; no condition. -/
import Derived.Test.YtgkmcegmobfknaaGreatDoorLiftF2
set_option linter.all false
open Go.IntKind (wrap)
namespace Go.Av
noncomputable section
open Go.Proofs
set_option maxRecDepth 100000
set_option maxHeartbeats 4000000
attribute [local irreducible] Wb Qd Q4s Q3q Qus Ql7 Qgi
section
def Vw (N:Nat) (R0:Reg) (client:List UInt8) (d:Yt):Option ((Jh×Int)×Reg):=
 (Q0p N).bind fun v1=>
 (Vn N d v1).bind fun v3=>
 cond (Q2 .neq v3 0)
 (some (((⟨0,0,[],[],0,false,false,0,[],0,[],0,(⟨0,false,false,0,0,[],[],false,0,[],false,[],false,[],false,(⟨[],[],0,false,[]⟩:Q77),false,0,[],[],[]⟩:Xq),(⟨0,(⟨false,0,false,false,false,0⟩:Zh),0,0,0,false,0,0,0,[],[]⟩:Yw),(⟨0,0,[],[]⟩:Q0f)⟩:Jh),v3),R0))
 ((Q3l N d.Hops).bind fun v6=>
 cond (Q2 .neq d.Msg.Type' 12)
 (some (((⟨3,2,[],[],0,false,false,0,[],0,v6,0,(⟨0,false,false,0,0,[],[],false,0,[],false,[],false,[],false,(⟨[],[],0,false,[]⟩:Q77),false,0,[],[],[]⟩:Xq),d.Msg,(⟨0,0,[],[]⟩:Q0f)⟩:Jh),0),R0))
 (cond (Q2 .eql d.Msg.Flags.Type' 2)
 ((Jg N (⟨⟩:Q0b) d.Msg.TopicID).bind fun v24=>
 cond (!v24.2)
 (some (((⟨0,0,[],[],0,false,false,0,[],0,[],0,(⟨0,false,false,0,0,[],[],false,0,[],false,[],false,[],false,(⟨[],[],0,false,[]⟩:Q77),false,0,[],[],[]⟩:Xq),(⟨0,(⟨false,0,false,false,false,0⟩:Zh),0,0,0,false,0,0,0,[],[]⟩:Yw),(⟨0,0,[],[]⟩:Q0f)⟩:Jh),11),R0))
 (some (((⟨3,1,v24.1,d.Msg.Data,d.Msg.Flags.QoS,d.Msg.Flags.Retain,d.Msg.Flags.Dup,d.Msg.MsgID,[],d.Msg.Flags.Type',v6,0,(⟨0,false,false,0,0,[],[],false,0,[],false,[],false,[],false,(⟨[],[],0,false,[]⟩:Q77),false,0,[],[],[]⟩:Xq),(⟨0,(⟨false,0,false,false,false,0⟩:Zh),0,0,0,false,0,0,0,[],[]⟩:Yw),(⟨0,0,[],[]⟩:Q0f)⟩:Jh),0),R0)))
 (cond (Q2 .eql d.Msg.Flags.Type' 1)
 ((Q1r N R0 client d.Msg.TopicID).bind fun v27=>
 cond (Q2 .neq v27.1.2 0)
 (some (((⟨0,0,[],[],0,false,false,0,[],0,[],0,(⟨0,false,false,0,0,[],[],false,0,[],false,[],false,[],false,(⟨[],[],0,false,[]⟩:Q77),false,0,[],[],[]⟩:Xq),(⟨0,(⟨false,0,false,false,false,0⟩:Zh),0,0,0,false,0,0,0,[],[]⟩:Yw),(⟨0,0,[],[]⟩:Q0f)⟩:Jh),11),v27.2))
 ((Q0q N v27.2 client d.Msg.TopicID).bind fun v30=>
 cond (!(v30.1 == true))
 (some (((⟨0,0,[],[],0,false,false,0,[],0,[],0,(⟨0,false,false,0,0,[],[],false,0,[],false,[],false,[],false,(⟨[],[],0,false,[]⟩:Q77),false,0,[],[],[]⟩:Xq),(⟨0,(⟨false,0,false,false,false,0⟩:Zh),0,0,0,false,0,0,0,[],[]⟩:Yw),(⟨0,0,[],[]⟩:Q0f)⟩:Jh),11),v30.2))
 (some (((⟨3,1,v27.1.1,d.Msg.Data,d.Msg.Flags.QoS,d.Msg.Flags.Retain,d.Msg.Flags.Dup,d.Msg.MsgID,[],d.Msg.Flags.Type',v6,0,(⟨0,false,false,0,0,[],[],false,0,[],false,[],false,[],false,(⟨[],[],0,false,[]⟩:Q77),false,0,[],[],[]⟩:Xq),(⟨0,(⟨false,0,false,false,false,0⟩:Zh),0,0,0,false,0,0,0,[],[]⟩:Yw),(⟨0,0,[],[]⟩:Q0f)⟩:Jh),0),v30.2))))
 ((Q1r N R0 client d.Msg.TopicID).bind fun v33=>
 cond (Q2 .neq v33.1.2 0)
 (some (((⟨0,0,[],[],0,false,false,0,[],0,[],0,(⟨0,false,false,0,0,[],[],false,0,[],false,[],false,[],false,(⟨[],[],0,false,[]⟩:Q77),false,0,[],[],[]⟩:Xq),(⟨0,(⟨false,0,false,false,false,0⟩:Zh),0,0,0,false,0,0,0,[],[]⟩:Yw),(⟨0,0,[],[]⟩:Q0f)⟩:Jh),11),v33.2))
 ((Q0q N v33.2 client d.Msg.TopicID).bind fun v36=>
 cond (!(v36.1 == false))
 (some (((⟨0,0,[],[],0,false,false,0,[],0,[],0,(⟨0,false,false,0,0,[],[],false,0,[],false,[],false,[],false,(⟨[],[],0,false,[]⟩:Q77),false,0,[],[],[]⟩:Xq),(⟨0,(⟨false,0,false,false,false,0⟩:Zh),0,0,0,false,0,0,0,[],[]⟩:Yw),(⟨0,0,[],[]⟩:Q0f)⟩:Jh),11),v36.2))
 (some (((⟨3,1,v33.1.1,d.Msg.Data,d.Msg.Flags.QoS,d.Msg.Flags.Retain,d.Msg.Flags.Dup,d.Msg.MsgID,[],d.Msg.Flags.Type',v6,0,(⟨0,false,false,0,0,[],[],false,0,[],false,[],false,[],false,(⟨[],[],0,false,[]⟩:Q77),false,0,[],[],[]⟩:Xq),(⟨0,(⟨false,0,false,false,false,0⟩:Zh),0,0,0,false,0,0,0,[],[]⟩:Yw),(⟨0,0,[],[]⟩:Q0f)⟩:Jh),0),v36.2)))))))
theorem Q6a {N} {R0} {client} {d} {r} (h:Vw N R0 client d=some r):Q0j Tryz.prog G1 14 R0 [.str client,.agg (Yt.cells d)] (.tuple [.agg (Jh.cells r.1.1),.int .i64 r.1.2]) r.2:=by
 refine Q7z k14 ?_;unfold Vw at h;rw [cX] at h;refine Qm ?_;refine cD h Q5v p0 fun v1 h=>?_;refine cD h Q85 (.cons (Ar (f8_ za)) p1) fun v3 h=>?_;apply iU h<;>intro h
 ·obtain rfl:=Qb h;exact ⟨1,rfl,(At (.cons (Ar (f8_ (.cons (.nil _) (.cons (.p _) (.cons (.nil _) (Qd1 (f4_ (.cons (.nil _) (f2_ (.cons (.nil _) (.cons (.nil _) (.cons (.nil _) (Qd1 (f2_ (f1_ (.cons (.nil _) .nil)))))))))))))))) p1))⟩
 refine cO h Qbg (fun v6 => .slice 2 4 0 v6.length) (rE rfl <| rN) fun v6 h=>?_;apply iU h<;>intro h
 ·obtain rfl:=Qb h;exact ⟨1,rfl,(At (.cons (Ar (f8_ (.cons (.nil _) (.cons (.p _) (.cons (frz_own (c:=Q0a.cells) (l:=(v6:List Q0a)) (fun _=>rfl) rfl (by decide) sd) (Qd1 (f4_ (.cons (.nil _) (f2_ (.cons (.nil _) (.cons (.nil _) (.cons (.nil _) (Qd1 (f2_ (f1_ (.cons (.nil _) .nil)))))))))))))))) p1))⟩
 refine Ql1 8 0 rfl rfl rfl rfl rfl ?_;refine Qzo h (fun hc22 h=>?_) (fun hc22 h=>?_)
 ·refine Q6o (r := .iface 139 (.agg [])) rfl rfl (Q6 k43 (ifT hc22 rfl)) ?_;refine cP h Q4h (.cons (Ar .nil) p1) fun v24 h=>?_;apply iU h<;>intro h
  ·obtain rfl:=Qb h;exact ⟨1,rfl,(At (.cons (Ar (f8_ (.cons (.nil _) (.cons (.p _) (.cons (.nil _) (Qd1 (f4_ (.cons (.nil _) (f2_ (.cons (.nil _) (.cons (.nil _) (.cons (.nil _) (Qd1 (f2_ (f1_ (.cons (.nil _) .nil)))))))))))))))) p1))⟩
  refine Qm ?_;refine Qm ?_;obtain rfl:=Qb h;exact ⟨1,rfl,(At (.cons (Ar (f8_ (.cons (.nil _) (.cons (.p _) (.cons (frz_own (c:=Q0a.cells) (l:=(v6:List Q0a)) (fun _=>rfl) rfl (by decide) sd) (Qd1 (f4_ (.cons (.nil _) (f2_ (.cons (.nil _) (.cons (.nil _) (.cons (.nil _) (Qd1 (f2_ (f1_ (.cons (.nil _) .nil)))))))))))))))) p1))⟩
 refine Qzo h (fun hc23 h=>?_) (fun hc23 h=>?_)
 ·refine Q6o (r := .iface 141 (.agg [.ptr 0 0,iS client])) rfl rfl (Q6 k43 (ifF hc22 (ifT hc23 rfl))) ?_;refine Q6 Z2p ?_;refine Q6 Z2n ?_;refine cRg h Q3g (b:=1) rfl p2 fun v27 h=>?_;apply iU h<;>intro h
  ·obtain rfl:=Qb h;exact ⟨9,rfl,(At (.cons (Ar (f8_ (.cons (.nil _) (.cons (.p _) (.cons (.nil _) (Qd1 (f4_ (.cons (.nil _) (f2_ (.cons (.nil _) (.cons (.nil _) (.cons (.nil _) (Qd1 (f2_ (f1_ (.cons (.nil _) .nil)))))))))))))))) p1))⟩
  refine cRg h Q2o (b:=9) rfl p2 fun v30 h=>?_;apply iU h<;>intro h
  ·obtain rfl:=Qb h;exact ⟨10,rfl,(At (.cons (Ar (f8_ (.cons (.nil _) (.cons (.p _) (.cons (.nil _) (Qd1 (f4_ (.cons (.nil _) (f2_ (.cons (.nil _) (.cons (.nil _) (.cons (.nil _) (Qd1 (f2_ (f1_ (.cons (.nil _) .nil)))))))))))))))) p1))⟩
  refine Qm ?_;refine Qm ?_;obtain rfl:=Qb h;exact ⟨10,rfl,(At (.cons (Ar (f8_ (.cons (.nil _) (.cons (.p _) (.cons (frz_own (c:=Q0a.cells) (l:=(v6:List Q0a)) (fun _=>rfl) rfl (by decide) sd) (Qd1 (f4_ (.cons (.nil _) (f2_ (.cons (.nil _) (.cons (.nil _) (.cons (.nil _) (Qd1 (f2_ (f1_ (.cons (.nil _) .nil)))))))))))))))) p1))⟩
 refine Q6o (r := .iface 142 (.agg [.ptr 0 0,iS client])) rfl rfl (Q6 k43 (ifF hc22 (ifF hc23 rfl))) ?_;refine Q6 Z55 ?_;refine Q6 Z2n ?_;refine cRg h Q3g (b:=1) rfl p2 fun v33 h=>?_;apply iU h<;>intro h
 ·obtain rfl:=Qb h;exact ⟨9,rfl,(At (.cons (Ar (f8_ (.cons (.nil _) (.cons (.p _) (.cons (.nil _) (Qd1 (f4_ (.cons (.nil _) (f2_ (.cons (.nil _) (.cons (.nil _) (.cons (.nil _) (Qd1 (f2_ (f1_ (.cons (.nil _) .nil)))))))))))))))) p1))⟩
 refine cRg h Q2o (b:=9) rfl p2 fun v36 h=>?_;apply iU h<;>intro h
 ·obtain rfl:=Qb h;exact ⟨10,rfl,(At (.cons (Ar (f8_ (.cons (.nil _) (.cons (.p _) (.cons (.nil _) (Qd1 (f4_ (.cons (.nil _) (f2_ (.cons (.nil _) (.cons (.nil _) (.cons (.nil _) (Qd1 (f2_ (f1_ (.cons (.nil _) .nil)))))))))))))))) p1))⟩
 refine Qm ?_;refine Qm ?_;obtain rfl:=Qb h;exact ⟨10,rfl,(At (.cons (Ar (f8_ (.cons (.nil _) (.cons (.p _) (.cons (frz_own (c:=Q0a.cells) (l:=(v6:List Q0a)) (fun _=>rfl) rfl (by decide) sd) (Qd1 (f4_ (.cons (.nil _) (f2_ (.cons (.nil _) (.cons (.nil _) (.cons (.nil _) (Qd1 (f2_ (f1_ (.cons (.nil _) .nil)))))))))))))))) p1))⟩
def Qp (N:Nat) (v144:(List Qh)×Reg) (v148:(List Qh)×Reg):Nat->Int->Option Bool
 | 0,_=>none
 | n+1,i192=>
  cond (Q2 .lss i192 ((Qi Qh.cells v148.1).length:Int))
  ((idx v148.1 i192).bind fun y194=>
  cond (!y194.Fixed)
  (some false)
  (Qp N v144 v148 n (wrap .i64 (i192+1))))
  (some (Q2 .leq ((Qi Qh.cells v148.1).length:Int) ((Qi Qh.cells v144.1).length:Int)))
def Zl (N:Nat) (t:List Q9) (client:List UInt8) (m:Yw) (data:List UInt8):Nat->Int->(List Q1)->Reg->Option Bool
 | 0,_,_,_=>none
 | n+1,i99,Qr0,R101=>
  cond (Q2 .lss i99 ((Qi Q9.cells t).length:Int))
  ((idx t i99).bind fun y103=>
  cond (Q2 .eql y103.ID 0)
  ((idx t i99).bind fun y110=>
  (idx t i99).bind fun y112=>
  (Vp N R101 y110.Client y112.Name).bind fun v114=>
  (idx t i99).bind fun y116=>
  (idx t i99).bind fun y118=>
  (Zt N (⟨Qr0⟩:Q3) y116.Client y118.Name).bind fun v120=>
  Zl N t client m data n (wrap .i64 (i99+1)) v120.2.L v114.2)
  ((idx t i99).bind fun y128=>
  (idx t i99).bind fun y130=>
  (idx t i99).bind fun y132=>
  (Jv N R101 y128.Client y130.Name y132.ID).bind fun v134=>
  (idx t i99).bind fun y136=>
  (idx t i99).bind fun y138=>
  (idx t i99).bind fun y140=>
  (Zq N (⟨Qr0⟩:Q3) y136.Client y138.Name y140.ID).bind fun v142=>
  Zl N t client m data n (wrap .i64 (i99+1)) v142.2.L v134.2))
  ((Uj N R101 client).bind fun v144=>
  (Jl N v144.2 client m).bind fun v146=>
  (Uj N v146.2 client).bind fun v148=>
  (X9 N m).bind fun v150=>
  cond (Q2 .neq v146.1 0)
  ((Qg N v148.1 v144.1).bind fun v153=>
  cond v153
  (cond (Q2 .eql v150 0)
  (cond (Q2 .neq v150 0)
  (some true)
  (cond (Q2 .eql v146.1 2)
  (some (Q2 .eql m.Type' 10))
  (some false)))
  (cond (Q2 .eql v146.1 v150)
  (cond (Q2 .neq v150 0)
  (some true)
  (cond (Q2 .eql v146.1 2)
  (some (Q2 .eql m.Type' 10))
  (some false)))
  (some false)))
  (some false))
  (cond (Q2 .eql m.Type' 10)
  ((Q1r N v148.2 client m.TopicID).bind fun v163=>
  cond (Q2 .neq v163.1.2 0)
  (some false)
  (cond (Jz .neq v163.1.1 m.Name)
  (some false)
  (cond (Q2 .gtr ((Qi Qh.cells v148.1).length:Int) (wrap .i64 (((Qi Qh.cells v144.1).length:Int)+1)))
  (some false)
  ((Q0q N v163.2 client m.TopicID).bind fun v168=>
  cond v168.1
  ((Vw N v168.2 client (⟨[],(⟨12,(⟨false,0,false,false,false,1⟩:Zh),0,0,0,false,m.TopicID,0,0,[],data⟩:Yw)⟩:Yt)).bind fun v171=>
  cond (Q2 .eql v150 0)
  (cond (Q2 .eql v171.1.2 0)
  (cond (Jz .eql v171.1.1.Topic m.Name)
  (some (Jz .eql v171.1.1.Payload data))
  (some false))
  (some false))
  (some false))
  ((Vw N v168.2 client (⟨[],(⟨12,(⟨false,0,false,false,false,0⟩:Zh),0,0,0,false,m.TopicID,0,0,[],data⟩:Yw)⟩:Yt)).bind fun v176=>
  cond (Q2 .eql v150 0)
  (cond (Q2 .eql v176.1.2 0)
  (cond (Jz .eql v176.1.1.Topic m.Name)
  (some (Jz .eql v176.1.1.Payload data))
  (some false))
  (some false))
  (some false))))))
  (cond (Q2 .eql m.Type' 4)
  (cond m.Flags.Clean
  (Qp N v144 v148 N 0)
  ((Qg N v148.1 v144.1).bind fun v197=>
  some v197))
  ((Qg N v148.1 v144.1).bind fun v199=>
  some v199))))
def X4 (N:Nat) (t:List Q9) (client:List UInt8) (m:Yw) (data:List UInt8):Option Bool:=
 (Q1a N).bind fun v1=>
 cond (!v1)
 (some false)
 ((Ul N t).bind fun v4=>
 cond (!v4)
 (some true)
 (cond (Q2 .gtr (client.length:Int) 100)
 (some true)
 ((U7 N m).bind fun v8=>
 cond (!v8)
 (some true)
 (cond (Q2 .gtr (data.length:Int) 400)
 (some true)
 (Zl N t client m data N 0 [] [])))))
theorem Q0x {N} {t} {client} {m} {data} {r} (h:X4 N t client m data=some r):pU 3 [.slice 3 (Qi Q9.cells t),.str client,.agg (Yw.cells m),.str data] (.bool r):=by
 refine Q5 k3 ?_;unfold X4 at h;rw [cX] at h;refine cP h Q2s p0 fun v1 h=>?_;refine iL h fun h=>?_;refine cP h Q32 p1 fun v4 h=>?_;refine iL h fun h=>?_;refine iL h fun h=>?_;refine cP h Q2k (.cons (Ar (f8_ (f2_ (.cons (.p _) p5)))) .nil) fun v8 h=>?_;refine iL h fun h=>?_;refine iL h fun h=>?_;refine Q6 k7 ?_;refine Qse Qy5 1 rfl ?_;refine Q6 k18 ?_;refine lpC (τ:=Int×(List Q1)×Reg) (fun ⟨i99,_,_⟩=>(.p (.slice 3 (Qi Q9.cells t))::a2 (.any :: .ptr 1 0 :: .ptr 3 0::iI i99::a16 (a16 (a16 (a16 (a8 (a2 ([]))))))):List AV)) (fun ⟨_,Qr0,R101⟩=>(.cells (Q6v m ([])) :: .dead :: .dead :: .cells (.p (.slice 2 (Qi Q1.cells Qr0)) :: []) :: .ext R101 1 :: []:List AObj)) (fun n0 ⟨i99,Qr0,R101⟩=>Zl N t client m data n0 i99 Qr0 R101) (0,[],[]) h (rho [0,1,2,3,2]) ⟨(rE rfl <| rW <| rA <| rE rfl <| rE rfl <| rE rfl <| rX <| rX <| rX <| rX <| rX <| rX <| rX <| rX <| rX <| rW <| rN),(hE rfl <| hD <| hD <| hC rfl (rF (.nil _) <| rN) <| hE rfl <| hN),rfl,rfl,(roE rfl <| roE rfl <| roE rfl <| roE rfl <| roE rfl <| roN)⟩ fun n0 ⟨i99,Qr0,R101⟩ h=>?_
 first | rw [Zl] at h | simp only [Zl] at h
 rw [cX,cY] at h;apply iU h<;>intro h
 ·refine xR h fun y103 h=>?_;apply iU h<;>intro h
  ·refine Xx 11 rfl rfl ?_;refine xR h fun y110 h=>?_;refine xR h fun y112 h=>?_;refine cRg h Q11 (b:=4) rfl p2 fun v114 h=>?_;refine Qm ?_;refine xR h fun y116 h=>?_;refine xR h fun y118 h=>?_;refine dM h Gc rfl p2 fun v120 h=>?_;show Exists _;exact ⟨(n0,(wrap .i64 (i99+1)),v120.2.L,v114.2),h,Lg _,(rho [0,1,2,3,5]),Y7⟩
  refine Xx 16 rfl rfl ?_;refine xR h fun y128 h=>?_;refine xR h fun y130 h=>?_;refine xR h fun y132 h=>?_;refine cRg h Q78 (b:=4) rfl p3 fun v134 h=>?_;refine Qm ?_;refine xR h fun y136 h=>?_;refine xR h fun y138 h=>?_;refine xR h fun y140 h=>?_;refine dM h G8 rfl p3 fun v142 h=>?_;show Exists _;exact ⟨(n0,(wrap .i64 (i99+1)),v142.2.L,v134.2),h,Lg _,(rho [0,1,2,3,5]),Y7⟩
 refine cRg h Q25 (b:=4) rfl p1 fun v144 h=>?_;refine cRg h Q8m (b:=5) rfl (.cons (.p _) (.cons (Ar (f8_ (f2_ (.cons (.p _) p5)))) .nil)) fun v146 h=>?_;refine cRg h Q25 (b:=6) rfl p1 fun v148 h=>?_;refine cP h Q36 (.cons (Ar (f8_ (f2_ (.cons (.p _) p5)))) .nil) fun v150 h=>?_;apply iU h<;>intro h
 ·refine cP h Wx p2 fun v153 h=>?_;refine iR h fun h=>?_;apply iU h<;>intro h
  ·refine iL h fun h=>?_;exact iB h
  refine iR h fun h=>?_;refine iL h fun h=>?_;exact iB h
 apply iU h<;>intro h
 ·refine cRg h Q3g (b:=7) rfl p2 fun v163 h=>?_;refine iL h fun h=>?_;refine iL h fun h=>?_;refine iL h fun h=>?_;refine cRg h Q2o (b:=8) rfl p2 fun v168 h=>?_;apply iU h<;>intro h
  ·refine cRg h Q6a (b:=10) rfl (.cons (.p _) (.cons (Ar (.cons (.nil _) (f8_ (f2_ (.cons (.p _) p5))))) .nil)) fun v171 h=>?_;refine iR h fun h=>?_;refine iR h fun h=>?_;exact iB h
  refine cRg h Q6a (b:=10) rfl (.cons (.p _) (.cons (Ar (.cons (.nil _) (f8_ (f2_ (.cons (.p _) p5))))) .nil)) fun v176 h=>?_;refine iR h fun h=>?_;refine iR h fun h=>?_;exact iB h
 apply iU h<;>intro h
 ·apply iU h<;>intro h
  ·refine lpH (τ:=Int) (fun i192=>(a8 (a2 (.any :: .p (.slice 3 (Qi Qh.cells v144.1)) :: .any :: .p (.slice 3 (Qi Qh.cells v148.1))::a4 (a2 (iI i192::a16 (a16 (a16 (a16 (a16 (a16 (a16 (a16 (a16 (a16 (.any :: [])))))))))))))):List AV)) (fun n1 i192=>Qp N v144 v148 n1 i192) (0) h fun n1 i192 h=>?_
   first | rw [Qp] at h | simp only [Qp] at h
   rw [cX] at h;refine iR h fun h=>?_;refine xR h fun y194 h=>?_;refine iL h fun h=>?_;show Exists _;exact ⟨(n1,(wrap .i64 (i192+1))),h,Lg _,(fun i=>i),Y7⟩
  refine cP h Wx p2 fun v197 h=>?_;cases h;exact (.p _)
 refine cP h Wx p2 fun v199 h=>?_;cases h;exact (.p _)
end
end
end Go.Av
