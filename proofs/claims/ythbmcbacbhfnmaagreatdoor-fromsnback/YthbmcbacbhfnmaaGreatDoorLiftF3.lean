/- Part of FromsnBack: the law returns true; no condition. -/
import Derived.Test.YthbmcbacbhfnmaaGreatDoorLiftF2
set_option linter.all false
open Go.IntKind (wrap)
namespace Go.Av
noncomputable section
open Go.Proofs
set_option maxRecDepth 100000
set_option maxHeartbeats 4000000
attribute [local irreducible] Wz Qq Qaj Qa1 Z03 Qpy Qjw
section
def Q55 (N:Nat) (e:Qg) (l:Yq):Option Int:=
 cond (Q0 .eql e.Proto 1)
 ((Q1o N (⟨e.Proto,e.Kind,[],[],0,false,false,0,[],0,[],0,e.Packet,(⟨0,(⟨false,0,false,false,false,0⟩:Qz),0,0,0,false,0,0,0,[],[]⟩:Xl),(⟨0,0,[],[]⟩:X9)⟩:Qg) e).bind fun v2=>
 cond (!v2)
 (some 2)
 (cond (Q0 .eql e.Packet.Kind 3)
 (some 2)
 (none)))
 (cond (Q0 .eql e.Proto 2)
 ((Q1o N (⟨e.Proto,e.Kind,[],[],0,false,false,0,[],0,[],0,e.Packet,(⟨0,(⟨false,0,false,false,false,0⟩:Qz),0,0,0,false,0,0,0,[],[]⟩:Xl),(⟨0,0,[],[]⟩:X9)⟩:Qg) e).bind fun v7=>
 cond (!v7)
 (some 2)
 (cond (Q0 .eql e.Packet.Kind 3)
 (some 2)
 (none)))
 (cond (Q0 .eql e.Proto 3)
 ((Q1o N (⟨e.Proto,e.Kind,[],[],0,false,false,0,[],0,e.Hops,0,(⟨0,false,false,0,0,[],[],false,0,[],false,[],false,[],false,(⟨[],[],0,false,[]⟩:Q3r),false,0,[],[],[]⟩:Zj),e.Msg,(⟨0,0,[],[]⟩:X9)⟩:Qg) e).bind fun v12=>
 cond (!v12)
 (some 2)
 (cond (Q0 .eql e.Msg.Type' 12)
 (some 2)
 ((Xa N (⟨e.Hops,e.Msg⟩:Qb) l).bind fun v16=>
 some v16)))
 (cond (Q0 .eql e.Proto 4)
 ((Q1o N (⟨e.Proto,e.Kind,[],[],0,false,false,0,[],0,[],0,(⟨0,false,false,0,0,[],[],false,0,[],false,[],false,[],false,(⟨[],[],0,false,[]⟩:Q3r),false,0,[],[],[]⟩:Zj),(⟨0,(⟨false,0,false,false,false,0⟩:Qz),0,0,0,false,0,0,0,[],[]⟩:Xl),e.Frame⟩:Qg) e).bind fun v19=>
 cond (!v19)
 (some 2)
 (none))
 (some 2))))
def Qgd {N} {e} {l} {r} (h:Q55 N e l=some r):pU 69 [.agg (Qg.cells e),.agg (Yq.cells l)] (.int .i64 r):=by
 refine Q1 k69 ?_;unfold Q55 at h;rw [cX] at h;refine ifO h (fun hc1 h=>?_) (fun hc1 h=>?_)
 ·refine ifT hc1 (cP h Q4t (.cons (Ar (f8_ (.cons (.nil _) (.cons (.p _) (.cons (.nil _) (Vl (Vl (f8_ (f4_ (f1_ (.cons (.nil _) .nil))))))))))) (.cons (Ar (Vl (Vl (Vl za)))) .nil)) fun v2 h=>?_);refine iL h fun h=>iL h fun h=>ifT hc1 ?_
  exact bF
 apply iU h<;>intro h
 ·refine cP h Q4t (.cons (Ar (f8_ (.cons (.nil _) (.cons (.p _) (.cons (.nil _) (Vl (Vl (f8_ (f4_ (f1_ (.cons (.nil _) .nil))))))))))) (.cons (Ar (Vl (Vl (Vl za)))) .nil)) fun v7 h=>iL h fun h=>iL h fun h=>ifF hc1 ?_
  exact bF
 apply iU h<;>intro h
 ·refine Qd (cP h Q4t (.cons (Ar (f8_ (.cons (.nil _) (Vl (f4_ (f2_ (.cons (.nil _) (f2_ (.cons (.nil _) (.cons (.nil _) (.cons (.nil _) (Vl (f2_ (f1_ (.cons (.nil _) .nil))))))))))))))) (.cons (Ar (Vl (Vl (Vl za)))) .nil)) fun v12 h=>?_);refine iL h fun h=>iL h fun h=>cP h Vr (.cons (Ar (f8_ za)) (.cons q2 .nil)) fun v16 h=>?_;exact am
 refine iR h fun h=>Qd (cD h Q4t (.cons (Ar (f8_ (.cons (.nil _) (.cons (.p _) (.cons (.nil _) (Vl (f4_ (.cons (.nil _) (f2_ (.cons (.nil _) (.cons (.nil _) (.cons (.nil _) (f8_ (f4_ (f2_ (.cons (.p _) p5)))))))))))))))) (.cons (Ar (Vl (Vl (Vl za)))) .nil)) fun v19 h=>?_);refine iL h fun h=>?_
 exact bF
def Q4v (N:Nat) (e:Qg) (l:Yq):Option Int:=
 (Q75 N l).bind fun v1=>
 cond (!v1)
 (some 2)
 (cond (Q0 .eql e.Kind 1)
 ((Gw N e).bind fun v5=>
 cond (Q0 .neq v5 0)
 (some v5)
 (cond (Q0 .gtr (e.Payload.length:Int) l.MaxPacket)
 (some 4)
 (some 0)))
 (cond (Q0 .eql e.Kind 2)
 ((Q55 N e l).bind fun v10=>
 some v10)
 (some 2)))
def Qg2 {N} {e} {l} {r} (h:Q4v N e l=some r):pU 38 [.agg (Qg.cells e),.agg (Yq.cells l)] (.int .i64 r):=by
 refine Q1 k38 ?_;unfold Q4v at h;rw [cX] at h;refine cP h Qg3 (.cons q2 .nil) fun v1 h=>iL h fun h=>?_;apply iU h<;>intro h
 ·exact cP h Qdk (.cons (Ar (Vl (Vl (Vl za)))) .nil) fun v5 h=>iL h fun h=>iB h
 refine iR h fun h=>cP h Qgd (.cons (Ar (Vl (Vl (Vl za)))) (.cons q2 .nil)) fun v10 h=>?_;exact am
def Qgg (_N:Nat) (R:Reg) (c n:List UInt8):Option ((Int×Int)×Reg):=some (rID R c n,R)
def Qjb {N R c n r} (h:Qgg N R c n=some r):Q6f Tryz.prog G1 577 R [.str c,.str n] (.tuple [.int .i64 r.1.1,.int .i64 r.1.2]) r.2:=by cases h;exact Za2
def Q37 (N:Nat) (a:Q0r) (name:List UInt8):Option (Int×Bool):=
 (Q21 N name).bind fun v1=>
 some (v1.1,v1.2)
def Qc5 {N} {a} {name} {r} (h:Q37 N a name=some r):pU 573 [.agg (Q0r.cells a),.str name] (.tuple [.int .i64 r.1,.bool r.2]):=by
 refine Q1 Zso ?_;unfold Q37 at h;refine cP h Qaa p1 fun v1 h=>?_;exact aU
def Uj (N:Nat) (R0:Reg) (client:List UInt8) (e:Qg):Option ((Qb×Int)×Reg):=
 cond (Q0 .neq e.Proto 3)
 (some (((⟨[],(⟨0,(⟨false,0,false,false,false,0⟩:Qz),0,0,0,false,0,0,0,[],[]⟩:Xl)⟩:Qb),2),R0))
 ((We N).bind fun v2=>
 (Q4v N e v2).bind fun v4=>
 cond (Q0 .neq v4 0)
 (some (((⟨[],(⟨0,(⟨false,0,false,false,false,0⟩:Qz),0,0,0,false,0,0,0,[],[]⟩:Xl)⟩:Qb),v4),R0))
 ((Q7g N e.Hops).bind fun v7=>
 cond (Q0 .eql e.Kind 1)
 (cond (Q0 .eql e.Type' 2)
 ((Q37 N (⟨⟩:Q0r) e.Topic).bind fun v30=>
 cond (!v30.2)
 (some (((⟨[],(⟨0,(⟨false,0,false,false,false,0⟩:Qz),0,0,0,false,0,0,0,[],[]⟩:Xl)⟩:Qb),11),R0))
 ((We N).bind fun v33=>
 (Xa N (⟨v7,(⟨12,(⟨e.Dup,e.QoS,e.Retain,false,false,e.Type'⟩:Qz),0,0,0,false,v30.1,e.ID,0,[],e.Payload⟩:Xl)⟩:Qb) v33).bind fun v35=>
 cond (Q0 .neq v35 0)
 (some (((⟨[],(⟨0,(⟨false,0,false,false,false,0⟩:Qz),0,0,0,false,0,0,0,[],[]⟩:Xl)⟩:Qb),v35),R0))
 (some (((⟨v7,(⟨12,(⟨e.Dup,e.QoS,e.Retain,false,false,e.Type'⟩:Qz),0,0,0,false,v30.1,e.ID,0,[],e.Payload⟩:Xl)⟩:Qb),0),R0))))
 (cond (Q0 .eql e.Type' 1)
 ((Qgg N R0 client e.Topic).bind fun v38=>
 cond (Q0 .neq v38.1.2 0)
 (some (((⟨[],(⟨0,(⟨false,0,false,false,false,0⟩:Qz),0,0,0,false,0,0,0,[],[]⟩:Xl)⟩:Qb),11),v38.2))
 ((Q5t N v38.2 client v38.1.1).bind fun v41=>
 cond (!(v41.1 == true))
 (some (((⟨[],(⟨0,(⟨false,0,false,false,false,0⟩:Qz),0,0,0,false,0,0,0,[],[]⟩:Xl)⟩:Qb),11),v41.2))
 ((We N).bind fun v44=>
 (Xa N (⟨v7,(⟨12,(⟨e.Dup,e.QoS,e.Retain,false,false,e.Type'⟩:Qz),0,0,0,false,v38.1.1,e.ID,0,[],e.Payload⟩:Xl)⟩:Qb) v44).bind fun v46=>
 cond (Q0 .neq v46 0)
 (some (((⟨[],(⟨0,(⟨false,0,false,false,false,0⟩:Qz),0,0,0,false,0,0,0,[],[]⟩:Xl)⟩:Qb),v46),v41.2))
 (some (((⟨v7,(⟨12,(⟨e.Dup,e.QoS,e.Retain,false,false,e.Type'⟩:Qz),0,0,0,false,v38.1.1,e.ID,0,[],e.Payload⟩:Xl)⟩:Qb),0),v41.2)))))
 ((Qgg N R0 client e.Topic).bind fun v49=>
 cond (Q0 .neq v49.1.2 0)
 (some (((⟨[],(⟨0,(⟨false,0,false,false,false,0⟩:Qz),0,0,0,false,0,0,0,[],[]⟩:Xl)⟩:Qb),11),v49.2))
 ((Q5t N v49.2 client v49.1.1).bind fun v52=>
 cond (!(v52.1 == false))
 (some (((⟨[],(⟨0,(⟨false,0,false,false,false,0⟩:Qz),0,0,0,false,0,0,0,[],[]⟩:Xl)⟩:Qb),11),v52.2))
 ((We N).bind fun v55=>
 (Xa N (⟨v7,(⟨12,(⟨e.Dup,e.QoS,e.Retain,false,false,e.Type'⟩:Qz),0,0,0,false,v49.1.1,e.ID,0,[],e.Payload⟩:Xl)⟩:Qb) v55).bind fun v57=>
 cond (Q0 .neq v57 0)
 (some (((⟨[],(⟨0,(⟨false,0,false,false,false,0⟩:Qz),0,0,0,false,0,0,0,[],[]⟩:Xl)⟩:Qb),v57),v52.2))
 (some (((⟨v7,(⟨12,(⟨e.Dup,e.QoS,e.Retain,false,false,e.Type'⟩:Qz),0,0,0,false,v49.1.1,e.ID,0,[],e.Payload⟩:Xl)⟩:Qb),0),v52.2)))))))
 ((We N).bind fun v60=>
 (Xa N (⟨v7,e.Msg⟩:Qb) v60).bind fun v62=>
 cond (Q0 .neq v62 0)
 (some (((⟨[],(⟨0,(⟨false,0,false,false,false,0⟩:Qz),0,0,0,false,0,0,0,[],[]⟩:Xl)⟩:Qb),v62),R0))
 (some (((⟨v7,e.Msg⟩:Qb),0),R0)))))
def Q3y {N} {R0} {client} {e} {r} (h:Uj N R0 client e=some r):Q6f Tryz.prog G1 10 R0 [.str client,.agg (Qg.cells e)] (.tuple [.agg (Qb.cells r.1.1),.int .i64 r.1.2]) r.2:=by
 refine Qkb k10 ?_;unfold Uj at h;rw [cX] at h;apply iU h<;>intro h
 ·exact aV
 refine Qd (cD h Ut p0 fun v2 h=>?_);refine cD h Qg2 (.cons (Ar (Vl (Vl (Vl za)))) p1) fun v4 h=>?_;apply iU h<;>intro h
 ·exact aV
 refine Qd (dcO h Qay [4] (fun v7 => .slice 2 4 0 v7.length) (rE rfl <| rN) fun v7 h=>?_);apply iU h<;>intro h
 ·refine Qms 7 0 rfl rfl rfl rfl rfl (Z1c h (fun hc28 h=>?_) (fun hc28 h=>?_))
  ·refine Q5r (r := .iface 149 (.agg [])) rfl rfl (Q8 k37 (ifT hc28 rfl)) (cP h Qc5 (.cons (Ar .nil) p1) fun v30 h=>?_);apply iU h<;>intro h
   ·exact aV
   refine Qd (cD h Ut p0 fun v33 h=>?_);refine dL h Vr [4] (.cons (Ar (.cons (frz_own (c:=Vc.cells) (l:=(v7:List Vc)) (fun _=>rfl) rfl (by simp) sd) (f8_ (f2_ (.cons (.p _) p5))))) p1) fun v35 h=>?_;apply iU h<;>intro h
   ·exact aV
   exact cU
  refine Z1c h (fun hc29 h=>?_) (fun hc29 h=>?_)
  ·refine Q5r (r := .iface 151 (.agg [.ptr 0 0,iS client])) rfl rfl (Q8 k37 (ifF hc28 (ifT hc29 rfl))) (Q8 Zpk ?_);refine Q8 Zbs (cRg h Qjb (b:=1) rfl p2 fun v38 h=>?_);apply iU h<;>intro h
   ·exact eF
   refine cRg h Q64 (b:=8) rfl p2 fun v41 h=>?_;apply iU h<;>intro h
   ·exact bj
   refine Qd (cD h Ut p0 fun v44 h=>?_);refine dL h Vr [4] (.cons (Ar (.cons (frz_own (c:=Vc.cells) (l:=(v7:List Vc)) (fun _=>rfl) rfl (by simp) sd) (f8_ (f2_ (.cons (.p _) p5))))) p1) fun v46 h=>?_;apply iU h<;>intro h
   ·exact bj
   exact cV
  refine Q5r (r := .iface 152 (.agg [.ptr 0 0,iS client])) rfl rfl (Q8 k37 (ifF hc28 (ifF hc29 rfl))) (Q8 Zfq ?_);refine Q8 Zbs (cRg h Qjb (b:=1) rfl p2 fun v49 h=>?_);apply iU h<;>intro h
  ·exact eF
  refine cRg h Q64 (b:=8) rfl p2 fun v52 h=>?_;apply iU h<;>intro h
  ·exact bj
  refine Qd (cD h Ut p0 fun v55 h=>?_);refine dL h Vr [4] (.cons (Ar (.cons (frz_own (c:=Vc.cells) (l:=(v7:List Vc)) (fun _=>rfl) rfl (by simp) sd) (f8_ (f2_ (.cons (.p _) p5))))) p1) fun v57 h=>?_;apply iU h<;>intro h
  ·exact bj
  exact cV
 refine Qd (cD h Ut p0 fun v60 h=>?_);refine dL h Vr [4] (.cons (Ar (.cons (frz_own (c:=Vc.cells) (l:=(v7:List Vc)) (fun _=>rfl) rfl (by simp) sd) (f8_ (f2_ (.cons (.p _) p5))))) p1) fun v62 h=>?_;apply iU h<;>intro h
 ·exact aV
 exact cU
def X0 (N:Nat) (a:Qb) (b:Qb):Nat->Int->Option Bool
 | 0,_=>none
 | n+1,i17=>
  cond (Q0 .lss i17 ((Q7 Vc.cells a.Hops).length:Int))
  ((idx a.Hops i17).bind fun y19=>
  (idx b.Hops i17).bind fun y21=>
  cond (!(((y19.Radius:Int) == y21.Radius)&&(((y19.Node:List UInt8) == y21.Node)&&true)))
  (some false)
  (X0 N a b n (wrap .i64 (i17+1))))
  (some true)
def Xz (N:Nat) (a:Qb) (b:Qb):Option Bool:=
 cond (!(((a.Msg.Type':Int) == b.Msg.Type')&&(((a.Msg.Flags.Dup:Bool) == b.Msg.Flags.Dup)&&(((a.Msg.Flags.QoS:Int) == b.Msg.Flags.QoS)&&(((a.Msg.Flags.Retain:Bool) == b.Msg.Flags.Retain)&&(((a.Msg.Flags.Will:Bool) == b.Msg.Flags.Will)&&(((a.Msg.Flags.Clean:Bool) == b.Msg.Flags.Clean)&&(((a.Msg.Flags.Type':Int) == b.Msg.Flags.Type')&&(((a.Msg.Gateway:Int) == b.Msg.Gateway)&&(((a.Msg.Radius:Int) == b.Msg.Radius)&&(((a.Msg.Time:Int) == b.Msg.Time)&&(((a.Msg.Timed:Bool) == b.Msg.Timed)&&(((a.Msg.TopicID:Int) == b.Msg.TopicID)&&(((a.Msg.MsgID:Int) == b.Msg.MsgID)&&(((a.Msg.Code:Int) == b.Msg.Code)&&(((a.Msg.Name:List UInt8) == b.Msg.Name)&&(((a.Msg.Data:List UInt8) == b.Msg.Data)&&true)))))))))))))))))
 (some false)
 (cond (Q0 .neq ((Q7 Vc.cells a.Hops).length:Int) ((Q7 Vc.cells b.Hops).length:Int))
 (some false)
 (X0 N a b N 0))
def Q6p {N} {a} {b} {r} (h:Xz N a b=some r):pU 11 [.agg (Qb.cells a),.agg (Qb.cells b)] (.bool r):=by
 refine Q1 k11 ?_;unfold Xz at h;rw [cX] at h;refine iL h fun h=>iL h fun h=>lpH (τ:=Int) (fun i17=>(.any :: .any :: .ptr 0 0 :: .ptr 1 0 :: .any::iI i17::a16 (a16 ([])):List AV)) (fun n0 i17=>X0 N a b n0 i17) (0) h fun n0 i17 h=>?_
 first | rw [X0] at h | simp only [X0] at h
 exact gv
def Us (_N:Nat) (id:Int):Option (Qa):=
 cond (Q0 .eql id 1)
 (some (⟨1,[3,16],0,1⟩:Qa))
 (cond (Q0 .eql id 2)
 (some (⟨3,[3,16],0,4294967295⟩:Qa))
 (cond (Q0 .eql id 3)
 (some (⟨5,[3,16],0,0⟩:Qa))
 (cond (Q0 .eql id 8)
 (some (⟨5,[3,16],0,0⟩:Qa))
 (cond (Q0 .eql id 9)
 (some (⟨6,[3,16],0,0⟩:Qa))
 (cond (Q0 .eql id 11)
 (some (⟨4,[3,8],1,268435455⟩:Qa))
 (cond (Q0 .eql id 17)
 (some (⟨3,[1,2,14],0,4294967295⟩:Qa))
 (cond (Q0 .eql id 18)
 (some (⟨5,[2],0,0⟩:Qa))
 (cond (Q0 .eql id 26)
 (some (⟨5,[2],0,0⟩:Qa))
 (cond (Q0 .eql id 19)
 (some (⟨2,[2],0,65535⟩:Qa))
 (cond (Q0 .eql id 21)
 (some (⟨5,[1,2,15],0,0⟩:Qa))
 (cond (Q0 .eql id 22)
 (some (⟨6,[1,2,15],0,0⟩:Qa))
 (cond (Q0 .eql id 23)
 (some (⟨1,[1],0,1⟩:Qa))
 (cond (Q0 .eql id 25)
 (some (⟨1,[1],0,1⟩:Qa))
 (cond (Q0 .eql id 24)
 (some (⟨3,[16],0,4294967295⟩:Qa))
 (cond (Q0 .eql id 28)
 (some (⟨5,[2,14],0,0⟩:Qa))
 (cond (Q0 .eql id 31)
 (some (⟨5,[2,4,5,6,7,9,11,14,15],0,0⟩:Qa))
 (cond (Q0 .eql id 33)
 (some (⟨2,[1,2],1,65535⟩:Qa))
 (cond (Q0 .eql id 34)
 (some (⟨2,[1,2],0,65535⟩:Qa))
 (cond (Q0 .eql id 35)
 (some (⟨2,[3],1,65535⟩:Qa))
 (cond (Q0 .eql id 36)
 (some (⟨1,[2],0,1⟩:Qa))
 (cond (Q0 .eql id 37)
 (some (⟨1,[2],0,1⟩:Qa))
 (cond (Q0 .eql id 40)
 (some (⟨1,[2],0,1⟩:Qa))
 (cond (Q0 .eql id 41)
 (some (⟨1,[2],0,1⟩:Qa))
 (cond (Q0 .eql id 42)
 (some (⟨1,[2],0,1⟩:Qa))
 (cond (Q0 .eql id 38)
 (some (⟨7,[1,2,3,4,5,6,7,8,9,10,11,14,15,16],0,0⟩:Qa))
 (cond (Q0 .eql id 39)
 (some (⟨3,[1,2],1,4294967295⟩:Qa))
 (some (⟨0,[],0,0⟩:Qa))))))))))))))))))))))))))))
def Gj {N} {id} {r} (h:Us N id=some r):pU 184 [.int .i64 id] (.agg (Qa.cells r)):=by
 refine Q1 Zjf ?_;unfold Us at h;rw [cX] at h;apply iU h<;>intro h
 ·refine Q8 Z0b ?_;exact aL
 apply iU h<;>intro h
 ·refine Q8 Za9 ?_;exact aL
 refine ifO h (fun hc3 h=>?_) (fun hc3 h=>?_)
 ·refine ifT hc3 (Q8 Qxh ?_);exact aL
 apply iU h<;>intro h
 ·refine Q8 Qxh ?_;exact aL
 apply iU h<;>intro h
 ·refine Q8 Qxh ?_;exact aL
 apply iU h<;>intro h
 ·obtain rfl:=Qe h;exact (Ar (.cons (.p _) (.cons (frz_own (c:=(cI .i64)) (l:=([3,8]:List Int)) (fun _=>rfl) rfl trivial sd) p2)))
 apply iU h<;>intro h
 ·refine Q8 Za9 ?_;obtain rfl:=Qe h;exact (Ar (.cons (.p _) (.cons (frz_own (c:=(cI .i64)) (l:=([1,2,14]:List Int)) (fun _=>rfl) rfl trivial sd) p2)))
 refine ifO h (fun hc8 h=>?_) (fun hc8 h=>?_)
 ·refine ifT hc8 (Q8 Qxh ?_);exact au
 apply iU h<;>intro h
 ·refine Q8 Qxh ?_;exact au
 apply iU h<;>intro h
 ·refine Q8 Za8 ?_;exact au
 apply iU h<;>intro h
 ·exact du
 apply iU h<;>intro h
 ·exact du
 refine ifO h (fun hc13 h=>?_) (fun hc13 h=>?_)
 ·refine ifT hc13 (Q8 Z0b ?_);exact dQ
 apply iU h<;>intro h
 ·refine Q8 Z0b ?_;exact dQ
 apply iU h<;>intro h
 ·refine Q8 Za9 ?_;obtain rfl:=Qe h;exact (Ar (.cons (.p _) (.cons (frz_own (c:=(cI .i64)) (l:=([16]:List Int)) (fun _=>rfl) rfl trivial sd) p2)))
 apply iU h<;>intro h
 ·refine Q8 Qxh ?_;obtain rfl:=Qe h;exact (Ar (.cons (.p _) (.cons (frz_own (c:=(cI .i64)) (l:=([2,14]:List Int)) (fun _=>rfl) rfl trivial sd) p2)))
 apply iU h<;>intro h
 ·refine Q8 Qxh ?_;obtain rfl:=Qe h;exact (Ar (.cons (.p _) (.cons (frz_own (c:=(cI .i64)) (l:=([2,4,5,6,7,9,11,14,15]:List Int)) (fun _=>rfl) rfl trivial sd) p2)))
 apply iU h<;>intro h
 ·refine Q8 Za8 ?_;exact bD
 apply iU h<;>intro h
 ·refine Q8 Za8 ?_;exact bD
 apply iU h<;>intro h
 ·refine Q8 Za8 ?_;obtain rfl:=Qe h;exact (Ar (.cons (.p _) (.cons (frz_own (c:=(cI .i64)) (l:=([3]:List Int)) (fun _=>rfl) rfl trivial sd) p2)))
 refine ifO h (fun hc21 h=>?_) (fun hc21 h=>?_)
 ·refine ifT hc21 (Q8 Z0b ?_);exact au
 refine ifO h (fun hc22 h=>?_) (fun hc22 h=>?_)
 ·refine ifT hc22 (Q8 Z0b ?_);exact au
 refine ifO h (fun hc23 h=>?_) (fun hc23 h=>?_)
 ·refine ifT hc23 (Q8 Z0b ?_);exact au
 refine ifO h (fun hc24 h=>?_) (fun hc24 h=>?_)
 ·refine ifT hc24 (Q8 Z0b ?_);exact au
 apply iU h<;>intro h
 ·refine Q8 Z0b ?_;exact au
 apply iU h<;>intro h
 ·refine Q8 Qxh ?_;obtain rfl:=Qe h;exact (Ar (.cons (.p _) (.cons (frz_own (c:=(cI .i64)) (l:=([1,2,3,4,5,6,7,8,9,10,11,14,15,16]:List Int)) (fun _=>rfl) rfl trivial sd) p2)))
 apply iU h<;>intro h
 ·refine Q8 Za9 ?_;exact bD
 obtain rfl:=Qe h;exact (Ar (.cons (.p _) (.cons (.nil _) p2)))
def J7 (N:Nat) (kind:Int) (v1:Qa):Nat->Int->Option Bool
 | 0,_=>none
 | n+1,i12=>
  cond (Q0 .lss i12 ((Q7 (cI .i64) v1.kinds).length:Int))
  ((idx v1.kinds i12).bind fun y14=>
  cond (Q0 .eql y14 kind)
  (some true)
  (J7 N kind v1 n (wrap .i64 (i12+1))))
  (some false)
def Q1w (N:Nat) (kind:Int) (id:Int):Option Bool:=
 (Us N id).bind fun v1=>
 J7 N kind v1 N 0
def Q5e {N} {kind} {id} {r} (h:Q1w N kind id=some r):pU 183 [.int .i64 kind,.int .i64 id] (.bool r):=by
 refine Q1 Zhz ?_;unfold Q1w at h;refine cP h Gj p1 fun v1 h=>lpH (τ:=Int) (fun i12=>(iI kind::a4 (.p (.slice 1 (Q7 (cI .i64) v1.kinds))::iI i12::a8 (a4 (a2 (.any :: [])))):List AV)) (fun n0 i12=>J7 N kind v1 n0 i12) (0) h fun n0 i12 h=>?_
 first | rw [J7] at h | simp only [J7] at h
 rw [cX] at h;refine iR h fun h=>xR h fun y14 h=>iL h fun h=>?_;show Exists _;exact ⟨(n0,(wrap .i64 (i12+1))),h,Lc _,(fun i=>i),Z6⟩
def Jy (_N:Nat) (s90:Bool):Option Int:=
 cond s90
 (some 2)
 (some 0)
def G9 (N:Nat) (p:Z5) (v4:Qa) (s84:Bool):Option Int:=
 cond s84
 (some 9)
 (cond (Q0 .eql v4.shape 6)
 (Jy N (Q0 .gtr (p.Text.length:Int) 65535))
 (Jy N false))
def Vq (N:Nat) (p:Z5) (v4:Qa) (s65:Bool):Option Int:=
 cond s65
 (some 6)
 (cond (Q0 .eql p.ID 8)
 ((Zn N p.Text).bind fun v86=>
 G9 N p v4 (!v86))
 (G9 N p v4 false))
def Jv (N:Nat) (p:Z5) (v4:Qa) (text43:Bool):Option Int:=
 cond text43
 ((X4 N p.Text).bind fun v67=>
 cond (!v67)
 (Vq N p v4 true)
 ((X4 N p.Value).bind fun v70=>
 Vq N p v4 (!v70)))
 (Vq N p v4 false)
def U6 (N:Nat) (p:Z5) (v4:Qa) (s38:Bool):Option Int:=
 cond s38
 (some 9)
 (cond (Q0 .eql v4.shape 5)
 (Jv N p v4 true)
 (Jv N p v4 (Q0 .eql v4.shape 7)))
def Yx (N:Nat) (p:Z5) (v4:Qa) (s23:Bool):Option Int:=
 cond s23
 (some 2)
 (cond (Q0 .leq v4.shape 4)
 (cond (Q0 .lss p.N' v4.least)
 (U6 N p v4 true)
 (U6 N p v4 (Q0 .gtr p.N' v4.most)))
 (U6 N p v4 false))
def Q30 (N:Nat) (kind:Int) (p:Z5):Option Int:=
 (Q1w N kind p.ID).bind fun v1=>
 cond (!v1)
 (some 9)
 ((Us N p.ID).bind fun v4=>
 cond (Q0 .leq v4.shape 4)
 (cond (Q10 .neq p.Text [])
 (Yx N p v4 true)
 (cond (Q0 .neq v4.shape 7)
 (Yx N p v4 (Q10 .neq p.Value []))
 (Yx N p v4 false)))
 (cond (Q0 .neq p.N' 0)
 (Yx N p v4 true)
 (cond (Q0 .neq v4.shape 7)
 (Yx N p v4 (Q10 .neq p.Value []))
 (Yx N p v4 false))))
def Q95 {N} {kind} {p} {r} (h:Q30 N kind p=some r):pU 131 [.int .i64 kind,.agg (Z5.cells p)] (.int .i64 r):=by
 refine Q1 Zi6 ?_;unfold Q30 at h;rw [cX,cY] at h;refine cP h Q5e p2 fun v1 h=>iL h fun h=>cP h Gj p1 fun v4 h=>Q6x (Uk (σ:=Bool) (fun s23=>(a2 (.any :: .ptr 0 0 :: .any :: .ptr 1 0 :: .p (.bool (Ql6 .leq v4.shape 4))::a16 (a16 (a4 (.p (.bool s23)::a16 (a16 (a16 (a4 (a2 ([]))))))))):List AV)) (fun _=>(.cells (iI p.ID :: .p (.int .u32 p.N')::iS p.Text::iS p.Value :: []) :: .cells (iI v4.shape :: .p (.slice 1 (Q7 (cI .i64) v4.kinds)) :: .p (.int .u32 v4.least) :: .p (.int .u32 v4.most) :: []) :: []:List AObj)) (fun s23=>Yx N p v4 s23=some r) (fun _ _=>Lh _) ?_ ?_)
 ·refine ifO h (fun hc24 h=>?_) (fun hc24 h=>?_)
  ·apply iU h<;>intro h
   ·exact aB
   refine ifF (Z8q hc24) ?_;apply iU h<;>intro h
   ·exact ic
   exact aA
  refine ifT (Z8p hc24) ?_;apply iU h<;>intro h
  ·exact aB
  apply iU h<;>intro h
  ·exact ic
  exact aA
 rintro s23 h
 unfold Yx at h;rw [cX] at h;refine iL h fun h=>Q6x (Uk (σ:=Bool) (fun s38=>(a2 (.any :: .ptr 0 0 :: .any :: .ptr 1 0::a16 (a16 (a16 (a4 (.p (.bool s38)::a16 (a16 (a4 (a2 (.any :: []))))))))):List AV)) (fun _=>(.cells (iI p.ID :: .p (.int .u32 p.N')::iS p.Text::iS p.Value :: []) :: .cells (iI v4.shape :: .p (.slice 1 (Q7 (cI .i64) v4.kinds)) :: .p (.int .u32 v4.least) :: .p (.int .u32 v4.most) :: []) :: []:List AObj)) (fun s38=>U6 N p v4 s38=some r) (fun _ _=>Lh _) ?_ ?_)
 ·apply iU h<;>intro h
  ·apply iU h<;>intro h
   ·exact aB
   show Exists _;exact ⟨((Ql6 .gtr p.N' v4.most)),h,(fun i=>i),Z6⟩
  exact aA
 rintro s38 h
 unfold U6 at h;rw [cX] at h;refine iL h fun h=>Uk (σ:=Bool) (fun text43=>(a2 (.any :: .ptr 0 0 :: .any :: .ptr 1 0 :: .any :: .p (.bool text43)::a16 (a16 (a16 (a16 (a16 (a8 (a2 ([])))))))):List AV)) (fun _=>(.cells (iI p.ID :: .p (.int .u32 p.N')::iS p.Text::iS p.Value :: []) :: .cells (iI v4.shape :: .p (.slice 1 (Q7 (cI .i64) v4.kinds)) :: .p (.int .u32 v4.least) :: .p (.int .u32 v4.most) :: []) :: []:List AObj)) (fun text43=>Jv N p v4 text43=some r) (fun _ _=>Lh _) ?_ ?_
 ·apply iU h<;>intro h
  ·exact aB
  show Exists _;exact ⟨((Ql6 .eql v4.shape 7)),h,(fun i=>i),Z6⟩
 rintro text43 h
 unfold Jv at h;refine Q6x (Uk (σ:=Bool) (fun s65=>(a2 (.any :: .ptr 0 0 :: .any :: .ptr 1 0::a16 (a16 (a16 (a16 (a8 (.any :: .p (.bool s65)::a16 (a2 ([])))))))):List AV)) (fun _=>(.cells (iI p.ID :: .p (.int .u32 p.N')::iS p.Text::iS p.Value :: []) :: .cells (iI v4.shape :: .p (.slice 1 (Q7 (cI .i64) v4.kinds)) :: .p (.int .u32 v4.least) :: .p (.int .u32 v4.most) :: []) :: []:List AObj)) (fun s65=>Vq N p v4 s65=some r) (fun _ _=>Lh _) ?_ ?_)
 ·apply iU h<;>intro h
  ·refine cP h Wo p1 fun v67 h=>?_;apply iU h<;>intro h
   ·exact aB
   refine cP h Wo p1 fun v70 h=>?_;show Exists _;exact ⟨((!v70)),h,(fun i=>i),Z6⟩
  exact aA
 rintro s65 h
 unfold Vq at h;rw [cX] at h;refine iL h fun h=>Q6x (Uk (σ:=Bool) (fun s84=>(a2 (.any :: .ptr 0 0 :: .any :: .ptr 1 0::a16 (a16 (a16 (a16 (a16 (a2 (.p (.bool s84)::a8 (.any :: [])))))))):List AV)) (fun _=>(.cells (iI p.ID :: .p (.int .u32 p.N')::iS p.Text::iS p.Value :: []) :: .cells (iI v4.shape :: .p (.slice 1 (Q7 (cI .i64) v4.kinds)) :: .p (.int .u32 v4.least) :: .p (.int .u32 v4.most) :: []) :: []:List AObj)) (fun s84=>G9 N p v4 s84=some r) (fun _ _=>Lh _) ?_ ?_)
 ·apply iU h<;>intro h
  ·refine cP h X3 p1 fun v86 h=>?_;show Exists _;exact ⟨((!v86)),h,(fun i=>i),Z6⟩
  exact aA
 rintro s84 h
 unfold G9 at h;rw [cX] at h;refine iL h fun h=>Uk (σ:=Bool) (fun s90=>(a16 (a16 (a16 (a16 (a16 (a16 (.any :: .p (.bool s90) :: [])))))):List AV)) (fun _=>(.cells (iI p.ID :: .p (.int .u32 p.N')::iS p.Text::iS p.Value :: []) :: .cells (iI v4.shape :: .p (.slice 1 (Q7 (cI .i64) v4.kinds)) :: .p (.int .u32 v4.least) :: .p (.int .u32 v4.most) :: []) :: []:List AObj)) (fun s90=>Jy N s90=some r) (fun _ _=>Lh _) ?_ ?_
 ·apply iU h<;>intro h
  ·show Exists _;exact ⟨((Ql6 .gtr (p.Text.length:Int) 65535)),h,(fun i=>i),Z6⟩
  exact aA
 rintro s90 h
 unfold Jy at h;exact iB h
def J3 (N:Nat) (l:List Z5) (id:Int):Nat->Int->Option (Z5×Bool)
 | 0,_=>none
 | n+1,i14=>
  cond (Q0 .lss i14 ((Q7 Z5.cells l).length:Int))
  ((idx l i14).bind fun y16=>
  cond (Q0 .eql y16.ID id)
  ((idx l i14).bind fun y19=>
  some (y19,true))
  (J3 N l id n (wrap .i64 (i14+1))))
  (some ((⟨0,0,[],[]⟩:Z5),false))
def Gz (N:Nat) (l:List Z5) (id:Int):Option (Z5×Bool):=
 J3 N l id N 0
def Q2e {N} {l} {id} {r} (h:Gz N l id=some r):pU 185 [.slice 4 (Q7 Z5.cells l),.int .i64 id] (.tuple [.agg (Z5.cells r.1),.bool r.2]):=by
 refine Q1 Ztd ?_;unfold Gz at h;refine lpH (τ:=Int) (fun i14=>(.p (.slice 4 (Q7 Z5.cells l))::iI id :: .any :: .any :: .ptr 0 0 :: .any::iI i14::a16 (a2 ([])):List AV)) (fun n0 i14=>J3 N l id n0 i14) (0) h fun n0 i14 h=>?_
 first | rw [J3] at h | simp only [J3] at h
 rw [cX] at h;apply iU h<;>intro h
 ·refine xR h fun y16 h=>?_;apply iU h<;>intro h
  ·refine xR h fun y19 h=>?_;obtain rfl:=Qe h;exact (Au (.cons q4 p1))
  exact gE
 obtain rfl:=Qe h;exact (Au (.cons q4 p1))
def Q3f (N:Nat) (kind:Int) (id:Int):Option Bool:=
 (Q1w N kind id).bind fun v1=>
 cond v1
 (cond (Q0 .eql id 38)
 (some true)
 (cond (Q0 .eql id 11)
 (some (Q0 .eql kind 3))
 (some false)))
 (some false)
def Q9i {N} {kind} {id} {r} (h:Q3f N kind id=some r):pU 186 [.int .i64 kind,.int .i64 id] (.bool r):=by
 refine Q1 Zgk ?_;unfold Q3f at h;rw [cX] at h;exact cP h Q5e p2 fun v1 h=>iR h fun h=>iL h fun h=>iB h
def Q33 (N:Nat) (kind:Int) (l:List Z5) (id:Int):Option Bool:=
 (Gz N l id).bind fun v1=>
 cond v1.2
 ((Q3f N kind id).bind fun v4=>
 some (!v4))
 (some false)
def Q8m {N} {kind} {l} {id} {r} (h:Q33 N kind l id=some r):pU 132 [.int .i64 kind,.slice 4 (Q7 Z5.cells l),.int .i64 id] (.bool r):=by
 refine Q1 Zdk ?_;unfold Q33 at h;refine cP h Q2e p2 fun v1 h=>iR h fun h=>cP h Q9i p2 fun v4 h=>?_;exact am
def Q3d (N:Nat) (l:List Z5):Option Bool:=
 (Gz N l 22).bind fun v1=>
 (Gz N l 21).bind fun v3=>
 cond v1.2
 (some (!v3.2))
 (some false)
def Qa2 {N} {l} {r} (h:Q3d N l=some r):pU 133 [.slice 4 (Q7 Z5.cells l)] (.bool r):=by
 refine Q1 Znl ?_;unfold Q3d at h;exact cP h Q2e p2 fun v1 h=>cP h Q2e p2 fun v3 h=>iB h
def Ve (N:Nat) (n_0:Int):Nat->Int->(List Int)->Option (List UInt8)
 | 0,_,_=>none
 | n+1,i11,l12=>
  cond (Q0 .geq i11 0)
  (cond (Q0 .lss i11 8)
  (cond (decide (0≤(wrap .u64 (wrap .i64 (8 * i11))))) (cond (Nat.ble ((l12.length+1+4096) * 1) 17592186044416) (Ve N n_0 n (wrap .i64 (i11 - 1)) (l12 ++ [(wrap .u8 (Qcj .u64 n_0 (wrap .u64 (wrap .i64 (8 * i11)))))])) none) none)
  (cond (Nat.ble ((l12.length+1+4096) * 1) 17592186044416) (Ve N n_0 n (wrap .i64 (i11 - 1)) (l12 ++ [0])) none))
  (some (l12.map fun n=>UInt8.ofNat n.toNat))
def Jf (N:Nat) (n_0:Int) (size:Int):Option (List UInt8):=
 Ve N n_0 N (wrap .i64 ((ifB (decide ((ifB (decide (16<size)) 16 size)>0)) (ifB (decide (16<size)) 16 size) 0) - 1)) []
def Q0a {N} {n_0} {size} {r} (h:Jf N n_0 size=some r):pU 249 [.int .u64 n_0,.int .i64 size] (.str r):=by
 refine Q1 Zit ?_;unfold Jf at h;refine lpA (τ:=Int×(List Int)) (fun ⟨i11,l12⟩=>(iW n_0::a4 (.slice 1 0 0 l12.length::iI i11::a16 (a4 (a2 (.any :: [])))):List AV)) (fun ⟨_,l12⟩=>(.cells (Xh (cI .u8) l12) :: []:List AObj)) (fun n0 ⟨i11,l12⟩=>Ve N n_0 n0 i11 l12) ((wrap .i64 ((ifB (decide ((ifB (decide (16<size)) 16 size)>0)) (ifB (decide (16<size)) 16 size) 0) - 1)),[]) h fun n0 ⟨i11,l12⟩ h=>?_
 first | rw [Ve] at h | simp only [Ve] at h
 rw [cX] at h;apply iU h<;>intro h
 ·apply iU h<;>intro h
  ·refine kU h fun h=>?_;obtain ⟨hk16,h⟩:=Q6a h;refine Q3a (W8 (c:=(cI .u8)) (e:=1) (fun _=>rfl) sd hk16) (Ja (c:=(cI .u8)) [(wrap .u8 (Qcj .u64 n_0 (wrap .u64 (wrap .i64 (8 * i11)))))] rfl ?_);show Exists _;exact ⟨(n0,(wrap .i64 (i11 - 1)),(l12 ++ [(wrap .u8 (Qcj .u64 n_0 (wrap .u64 (wrap .i64 (8 * i11)))))])),h,Lc _,(rho [2]),Z6⟩
  obtain ⟨hk17,h⟩:=Q6a h;refine Q3a (W8 (c:=(cI .u8)) (e:=1) (fun _=>rfl) sd hk17) (Ja (c:=(cI .u8)) [0] rfl ?_);show Exists _;exact ⟨(n0,(wrap .i64 (i11 - 1)),(l12 ++ [0])),h,Lc _,(rho [2]),Z6⟩
 refine Qj1 (l:=l12) (n:=l12.length) sd ?_;exact am
def Q3g (_N:Nat) (n_0:Int):Option Int:=
 cond (Q0 .lss n_0 0)
 (some 0)
 (cond (Q0 .gtr n_0 268435455)
 (some 0)
 (cond (Q0 .lss n_0 128)
 (some 1)
 (cond (Q0 .lss n_0 16384)
 (some 2)
 (cond (Q0 .lss n_0 2097152)
 (some 3)
 (some 4)))))
def Q9n {N} {n_0} {r} (h:Q3g N n_0=some r):pU 313 [.int .i64 n_0] (.int .i64 r):=by
 refine Q1 Zms ?_;unfold Q3g at h;rw [cX] at h;exact iL h fun h=>iL h fun h=>iL h fun h=>iL h fun h=>iB h
def Wq (N:Nat) (v1:Int):Nat->Int->Int->(List Int)->Option ((List UInt8)×Int)
 | 0,_,_,_=>none
 | n+1,n13,i14,l15=>
  cond (Q0 .lss i14 v1)
  (cond (Q0 .lss (wrap .i64 (i14+1)) v1)
  (cond (Nat.ble ((l15.length+1+4096) * 1) 17592186044416) (Wq N v1 n (wrap .i64 ((n13:Int).tdiv 128)) (wrap .i64 (i14+1)) (l15 ++ [(wrap .u8 ((wrap .u8 ((n13:Int).tmod 128))+128))])) none)
  (cond (Nat.ble ((l15.length+1+4096) * 1) 17592186044416) (Wq N v1 n (wrap .i64 ((n13:Int).tdiv 128)) (wrap .i64 (i14+1)) (l15 ++ [(wrap .u8 ((n13:Int).tmod 128))])) none))
  (some ((l15.map fun n=>UInt8.ofNat n.toNat),0))
def Q2m (N:Nat) (n_0:Int):Option ((List UInt8)×Int):=
 (Q3g N n_0).bind fun v1=>
 cond (Q0 .eql v1 0)
 (some ([],2))
 (Wq N v1 N n_0 0 [])
def Q8n {N} {n_0} {r} (h:Q2m N n_0=some r):pU 250 [.int .i64 n_0] (.tuple [.str r.1,.int .i64 r.2]):=by
 refine Q1 Zdz ?_;unfold Q2m at h;rw [cX] at h;refine cP h Q9n p1 fun v1 h=>iL2 h fun h=>lpA (τ:=Int×Int×(List Int)) (fun ⟨n13,i14,l15⟩=>(iI n13::a2 (.any::iI v1 :: .slice 1 0 0 l15.length::iI i14::a16 (a8 (a2 (.any :: [])))):List AV)) (fun ⟨_,_,l15⟩=>(.cells (Xh (cI .u8) l15) :: []:List AObj)) (fun n0 ⟨n13,i14,l15⟩=>Wq N v1 n0 n13 i14 l15) (n_0,0,[]) h fun n0 ⟨n13,i14,l15⟩ h=>?_
 first | rw [Wq] at h | simp only [Wq] at h
 rw [cX] at h;apply iU h<;>intro h
 ·apply iU h<;>intro h
  ·obtain ⟨hk18,h⟩:=Q6a h;refine Q3a (W8 (c:=(cI .u8)) (e:=1) (fun _=>rfl) sd hk18) (Ja (c:=(cI .u8)) [(wrap .u8 ((wrap .u8 ((n13:Int).tmod 128))+128))] rfl ?_);show Exists _;exact ⟨(n0,(wrap .i64 ((n13:Int).tdiv 128)),(wrap .i64 (i14+1)),(l15 ++ [(wrap .u8 ((wrap .u8 ((n13:Int).tmod 128))+128))])),h,Lc _,(rho [2]),Z6⟩
  obtain ⟨hk19,h⟩:=Q6a h;refine Q3a (W8 (c:=(cI .u8)) (e:=1) (fun _=>rfl) sd hk19) (Ja (c:=(cI .u8)) [(wrap .u8 ((n13:Int).tmod 128))] rfl ?_);show Exists _;exact ⟨(n0,(wrap .i64 ((n13:Int).tdiv 128)),(wrap .i64 (i14+1)),(l15 ++ [(wrap .u8 ((n13:Int).tmod 128))])),h,Lc _,(rho [2]),Z6⟩
 refine Qj1 (l:=l15) (n:=l15.length) sd ?_;exact aU
def Q09 (N:Nat) (s_0:List UInt8):Option ((List UInt8)×Int):=
 cond (Q0 .gtr (s_0.length:Int) 65535)
 (some ([],2))
 ((Jf N (wrap .u64 (s_0.length:Int)) 2).bind fun v2=>
 cond (Nat.ble (v2.length+s_0.length) 4611686018427387904) (some ((v2++s_0),0)) none)
def Q3p {N} {s_0} {r} (h:Q09 N s_0=some r):pU 251 [.str s_0] (.tuple [.str r.1,.int .i64 r.2]):=by
 refine Q1 Zjd ?_;unfold Q09 at h;rw [cX] at h;refine iL2 h fun h=>cP h Q0a p2 fun v2 h=>kU h fun h=>?_;exact aU
def Q2o (N:Nat) (p:Z5):Option (List UInt8):=
 (Us N p.ID).bind fun v1=>
 cond (Q0 .eql v1.shape 1)
 ((Jf N (wrap .u64 p.N') 1).bind fun v4=>
 some v4)
 (cond (Q0 .eql v1.shape 2)
 ((Jf N (wrap .u64 p.N') 2).bind fun v7=>
 some v7)
 (cond (Q0 .eql v1.shape 3)
 ((Jf N (wrap .u64 p.N') 4).bind fun v10=>
 some v10)
 (cond (Q0 .eql v1.shape 4)
 ((Q2m N (wrap .i64 p.N')).bind fun v13=>
 some v13.1)
 ((Q09 N p.Text).bind fun v15=>
 (Us N p.ID).bind fun v17=>
 cond (Q0 .eql v17.shape 7)
 ((Q09 N p.Value).bind fun v20=>
 cond (Nat.ble (v15.1.length+v20.1.length) 4611686018427387904) (some (v15.1++v20.1)) none)
 (some v15.1)))))
def Q90 {N} {p} {r} (h:Q2o N p=some r):pU 187 [.agg (Z5.cells p)] (.str r):=by
 refine Q1 Zdm ?_;unfold Q2o at h;rw [cX] at h;refine cP h Gj p1 fun v1 h=>?_;apply iU h<;>intro h
 ·refine cP h Q0a p2 fun v4 h=>?_;exact am
 apply iU h<;>intro h
 ·refine cP h Q0a p2 fun v7 h=>?_;exact am
 apply iU h<;>intro h
 ·refine cP h Q0a p2 fun v10 h=>?_;exact am
 apply iU h<;>intro h
 ·refine cP h Q8n p1 fun v13 h=>?_;exact am
 refine cP h Q3p p1 fun v15 h=>cP h Gj p1 fun v17 h=>iR h fun h=>cP h Q3p p1 fun v20 h=>kU h fun h=>?_;exact am
def Ui (N:Nat) (l:List Z5):Nat->(List UInt8)->Int->Option (List UInt8)
 | 0,_,_=>none
 | n+1,out21,i22=>
  cond (Q0 .lss i22 ((Q7 Z5.cells l).length:Int))
  ((idx l i22).bind fun y24=>
  cond (Nat.ble (out21.length + [UInt8.ofNat (wrap .u8 y24.ID).toNat].length) 4611686018427387904) ((idx l i22).bind fun y27=>
  (Q2o N y27).bind fun v29=>
  cond (Nat.ble ((out21 ++ [UInt8.ofNat (wrap .u8 y24.ID).toNat]).length+v29.length) 4611686018427387904) (Ui N l n ((out21 ++ [UInt8.ofNat (wrap .u8 y24.ID).toNat])++v29) (wrap .i64 (i22+1))) none) none)
  (some out21)
def Q3h (N:Nat) (l:List Z5):Option (List UInt8):=
 Ui N l N [] 0
def Q9o {N} {l} {r} (h:Q3h N l=some r):pU 134 [.slice 4 (Q7 Z5.cells l)] (.str r):=by
 refine Q1 Zuq ?_;unfold Q3h at h;refine lpH (τ:=(List UInt8)×Int) (fun ⟨out21,i22⟩=>(.p (.slice 4 (Q7 Z5.cells l)) :: .any :: .any::iS out21::iI i22::a16 (a4 (a2 (.any :: []))):List AV)) (fun n0 ⟨out21,i22⟩=>Ui N l n0 out21 i22) ([],0) h fun n0 ⟨out21,i22⟩ h=>?_
 first | rw [Ui] at h | simp only [Ui] at h
 rw [cX] at h;refine iR h fun h=>Qd (xR h fun y24 h=>?_);refine kU h fun h=>xR h fun y27 h=>cD h Q90 (.cons q4 .nil) fun v29 h=>kU h fun h=>?_;show Exists _;exact ⟨(n0,((out21 ++ [UInt8.ofNat (wrap .u8 y24.ID).toNat])++v29),(wrap .i64 (i22+1))),h,Lc _,(fun i=>i),Z6⟩
def Vz (N:Nat) (kind:Int) (l:List Z5):Nat->Int->Option Int
 | 0,_=>none
 | n+1,i28=>
  cond (Q0 .lss i28 ((Q7 Z5.cells l).length:Int))
  ((idx l i28).bind fun y30=>
  (Q30 N kind y30).bind fun v32=>
  cond (Q0 .neq v32 0)
  (some v32)
  (cond (decide (0≤i28)) (cond (Nat.ble 0 i28.toNat&&Nat.ble i28.toNat (Q7 Z5.cells l).length) ((idx l i28).bind fun y37=>
  (Q33 N kind (l.take i28.toNat) y37.ID).bind fun v39=>
  cond v39
  (some 9)
  (Vz N kind l n (wrap .i64 (i28+1)))) none) none))
  ((Q3d N l).bind fun v42=>
  cond v42
  (some 9)
  ((Q3h N l).bind fun v45=>
  cond (Q0 .gtr (v45.length:Int) 268435455)
  (some 4)
  (some 0)))
def Vn (N:Nat) (kind:Int) (l:List Z5):Option Int:=
 cond (Q0 .gtr ((Q7 Z5.cells l).length:Int) 1000)
 (some 4)
 (Vz N kind l N 0)
def Q8y {N} {kind} {l} {r} (h:Vn N kind l=some r):pU 72 [.int .i64 kind,.slice 4 (Q7 Z5.cells l)] (.int .i64 r):=by
 refine Q1 k72 ?_;unfold Vn at h;rw [cX] at h;refine iL h fun h=>lpH (τ:=Int) (fun i28=>(iI kind :: .p (.slice 4 (Q7 Z5.cells l))::a2 (.any::iI i28::a16 (a16 (a2 (.any :: [])))):List AV)) (fun n0 i28=>Vz N kind l n0 i28) (0) h fun n0 i28 h=>?_
 first | rw [Vz] at h | simp only [Vz] at h
 rw [cX] at h;apply iU h<;>intro h
 ·refine xR h fun y30 h=>cP h Q95 (.cons (.p _) (.cons q4 .nil)) fun v32 h=>iL h fun h=>Qd (kU h fun h=>?_);refine kU h fun h=>xR h fun y37 h=>cD h Q8m (.cons (.p _) (.cons (Z1t (c:=Z5.cells)) p1)) fun v39 h=>iL h fun h=>?_;show Exists _;exact ⟨(n0,(wrap .i64 (i28+1))),h,Lc _,(fun i=>i),Z6⟩
 exact cP h Qa2 p1 fun v42 h=>iL h fun h=>cP h Q9o p1 fun v45 h=>iB h
def Y2 (N:Nat) (s_0:List UInt8):Nat->Int->Int->Option Int
 | 0,_,_=>none
 | n+1,n9,i10=>
  cond (Q0 .lss i10 (s_0.length:Int))
  ((idx s_0 i10).bind fun b12=>
  Y2 N s_0 n (orI .u64 (Q8t .u64 n9 8) (wrap .u64 (b12.toNat:Int))) (wrap .i64 (i10+1)))
  (some n9)
def Wm (N:Nat) (s_0:List UInt8):Option Int:=
 Y2 N s_0 N 0 0
def Q8a {N} {s_0} {r} (h:Wm N s_0=some r):pU 182 [.str s_0] (.int .u64 r):=by
 refine Q1 Zko ?_;unfold Wm at h;refine lpH (τ:=Int×Int) (fun ⟨n9,i10⟩=>(iS s_0 :: .any :: .any::iW n9::iI i10::a8 (a4 (a2 ([]))):List AV)) (fun n0 ⟨n9,i10⟩=>Y2 N s_0 n0 n9 i10) (0,0) h fun n0 ⟨n9,i10⟩ h=>?_
 first | rw [Y2] at h | simp only [Y2] at h
 rw [cX] at h;refine iR h fun h=>xB h fun b12 h=>?_;show Exists _;exact ⟨(n0,(orI .u64 (Q8t .u64 n9 8) (wrap .u64 (b12.toNat:Int))),(wrap .i64 (i10+1))),h,Lc _,(fun i=>i),Z6⟩
def Wv (N:Nat) (name:List UInt8):Option (Int×Bool):=
 cond (Q0 .neq (name.length:Int) 2)
 (some (0,false))
 ((Zn N name).bind fun v2=>
 cond (!v2)
 (some (0,false))
 ((Wm N name).bind fun v5=>
 some ((wrap .i64 v5),true)))
def Q48 {N} {name} {r} (h:Wv N name=some r):pU 129 [.str name] (.tuple [.int .i64 r.1,.bool r.2]):=by
 refine Q1 Zqa ?_;unfold Wv at h;rw [cX] at h;refine iL2 h fun h=>cP h X3 p1 fun v2 h=>iL2 h fun h=>cP h Q8a p1 fun v5 h=>?_;exact aU
def Xs (_N:Nat):Option (Yq):=
 some (⟨1048576,32⟩:Yq)
def Q07 {N} {r} (h:Xs N=some r):pU 13 [] (.agg (Yq.cells r)):=by
 refine Q1 k13 ?_;unfold Xs at h;obtain rfl:=Qe h;exact q2
def Q04 (_N:Nat) (h_0:Vc):Option Bool:=
 cond (Q0 .geq h_0.Radius 0)
 (cond (Q0 .leq h_0.Radius 3)
 (cond (Q0 .geq (h_0.Node.length:Int) 1)
 (some (Q0 .leq (h_0.Node.length:Int) 32))
 (some false))
 (some false))
 (some false)
def Qal {N} {h_0} {r} (h:Q04 N h_0=some r):pU 42 [.agg (Vc.cells h_0)] (.bool r):=by
 refine Q1 k42 ?_;unfold Q04 at h;exact bW
def Wn (N:Nat) (width:Int):Nat->Int->(List UInt8)->Int->Option (List UInt8)
 | 0,_,_,_=>none
 | n+1,n8,out9,i10=>
  cond (Q0 .lss i10 width)
  (cond (Nat.ble ([UInt8.ofNat (wrap .u8 n8).toNat].length+out9.length) 4611686018427387904) (Wn N width n (Qcj .u64 n8 8) ([UInt8.ofNat (wrap .u8 n8).toNat]++out9) (wrap .i64 (i10+1))) none)
  (some out9)
def Zm (N:Nat) (n_0:Int) (width:Int):Option (List UInt8):=
 Wn N width N n_0 [] 0
def J2 {N} {n_0} {width} {r} (h:Zm N n_0 width=some r):pU 146 [.int .u64 n_0,.int .i64 width] (.str r):=by
 refine Q1 Zmc ?_;unfold Zm at h;refine lpH (τ:=Int×(List UInt8)×Int) (fun ⟨n8,out9,i10⟩=>(iW n8::iI width::a2 (.any::iS out9::iI i10::a8 (a4 (a2 ([])))):List AV)) (fun n0 ⟨n8,out9,i10⟩=>Wn N width n0 n8 out9 i10) (n_0,[],0) h fun n0 ⟨n8,out9,i10⟩ h=>?_
 first | rw [Wn] at h | simp only [Wn] at h
 rw [cX] at h;refine iR h fun h=>kU h fun h=>?_;show Exists _;exact ⟨(n0,(Qcj .u64 n8 8),([UInt8.ofNat (wrap .u8 n8).toNat]++out9),(wrap .i64 (i10+1))),h,Lc _,(fun i=>i),Z6⟩
def Wi (N:Nat) (id:Int):Option ((List UInt8)×Bool):=
 cond (Q0 .lss id 0)
 (some ([],false))
 (cond (Q0 .gtr id 65535)
 (some ([],false))
 ((Zm N (wrap .u64 id) 2).bind fun v3=>
 (Wv N v3).bind fun v5=>
 cond (!v5.2)
 (some ([],false))
 (some (v3,true))))
def Gn {N} {id} {r} (h:Wi N id=some r):pU 144 [.int .i64 id] (.tuple [.str r.1,.bool r.2]):=by
 refine Q1 Zoj ?_;unfold Wi at h;rw [cX] at h;exact iL2 h fun h=>iL2 h fun h=>cP h J2 p2 fun v3 h=>cP h Q48 p1 fun v5 h=>iB2 h
def Zk (N:Nat) (m:Xl):Option Int:=
 cond (Q0 .eql m.Type' 12)
 (cond (Q0 .eql m.Flags.Type' 2)
 ((Wi N m.TopicID).bind fun v3=>
 cond (!v3.2)
 (some 10)
 (some 0))
 (cond (Q0 .lss m.TopicID 1)
 (some 2)
 (cond (Q0 .gtr m.TopicID 65534)
 (some 2)
 (some 0))))
 (cond (Q0 .eql m.Type' 10)
 (cond (Q0 .eql m.Flags.Type' 2)
 ((Wi N m.TopicID).bind fun v10=>
 cond (!v10.2)
 (some 10)
 (some 0))
 (cond (Q0 .lss m.TopicID 1)
 (some 2)
 (cond (Q0 .gtr m.TopicID 65534)
 (some 2)
 (some 0))))
 (cond (Q0 .eql m.Type' 18)
 (cond (!(Q0 .neq m.Flags.Type' 0))
 (some 0)
 (cond (Q0 .eql m.Flags.Type' 2)
 ((Wi N m.TopicID).bind fun v18=>
 cond (!v18.2)
 (some 10)
 (some 0))
 (cond (Q0 .lss m.TopicID 1)
 (some 2)
 (cond (Q0 .gtr m.TopicID 65534)
 (some 2)
 (some 0)))))
 (cond (Q0 .eql m.Type' 20)
 (cond (!(Q0 .neq m.Flags.Type' 0))
 (some 0)
 (cond (Q0 .eql m.Flags.Type' 2)
 ((Wi N m.TopicID).bind fun v26=>
 cond (!v26.2)
 (some 10)
 (some 0))
 (cond (Q0 .lss m.TopicID 1)
 (some 2)
 (cond (Q0 .gtr m.TopicID 65534)
 (some 2)
 (some 0)))))
 (some 0))))
def U5 {N} {m} {r} (h:Zk N m=some r):pU 80 [.agg (Xl.cells m)] (.int .i64 r):=by
 refine Q1 k80 ?_;unfold Zk at h;rw [cX] at h;apply iU h<;>intro h
 ·apply iU h<;>intro h
  ·exact cP h Gn p1 fun v3 h=>iB h
  exact dt
 apply iU h<;>intro h
 ·apply iU h<;>intro h
  ·exact cP h Gn p1 fun v10 h=>iB h
  exact dt
 apply iU h<;>intro h
 ·refine iL h fun h=>?_;apply iU h<;>intro h
  ·exact cP h Gn p1 fun v18 h=>iB h
  exact dt
 refine iR h fun h=>iL h fun h=>?_;apply iU h<;>intro h
 ·exact cP h Gn p1 fun v26 h=>iB h
 exact dt
def Y3 (N:Nat) (s_0:List UInt8):Nat->Int->Int->(List (List UInt8))->Option (List (List UInt8))
 | 0,_,_,_=>none
 | n+1,from16,i17,l18=>
  cond (Q0 .lss i17 (s_0.length:Int))
  ((idx s_0 i17).bind fun b20=>
  cond (Q0 .eql (b20.toNat:Int) 47)
  (cond (decide (0≤from16)) (cond (decide (0≤i17)) (cond (Nat.ble from16.toNat i17.toNat&&Nat.ble i17.toNat s_0.length) (cond (Nat.ble ((l18.length+1+4096) * 16) 17592186044416) (Y3 N s_0 n (wrap .i64 (i17+1)) (wrap .i64 (i17+1)) (l18 ++ [((s_0.take i17.toNat).drop from16.toNat)])) none) none) none) none)
  (Y3 N s_0 n from16 (wrap .i64 (i17+1)) l18))
  (cond (decide (0≤from16)) (cond (Nat.ble from16.toNat s_0.length&&Nat.ble s_0.length s_0.length) (cond (Nat.ble ((l18.length+1+4096) * 16) 17592186044416) (some (l18 ++ [((s_0.take s_0.length).drop from16.toNat)])) none) none) none)
def J5 (N:Nat) (s_0:List UInt8):Option (List (List UInt8)):=
 Y3 N s_0 N 0 0 []
def Q8b {N} {s_0} {r} (h:J5 N s_0=some r):pU 195 [.str s_0] (.slice 1 (Q7 cS r)):=by
 refine Q1 Zhn ?_;unfold J5 at h;refine lpA (τ:=Int×Int×(List (List UInt8))) (fun ⟨from16,i17,l18⟩=>(iS s_0 :: .any :: .any :: .slice 1 0 0 l18.length::iI from16::iI i17::a16 (a8 (.any :: [])):List AV)) (fun ⟨_,_,l18⟩=>(.cells (Xh cS l18) :: []:List AObj)) (fun n0 ⟨from16,i17,l18⟩=>Y3 N s_0 n0 from16 i17 l18) (0,0,[]) h fun n0 ⟨from16,i17,l18⟩ h=>?_
 first | rw [Y3] at h | simp only [Y3] at h
 rw [cX] at h;apply iU h<;>intro h
 ·refine xB h fun b20 h=>?_;apply iU h<;>intro h
  ·refine kU h fun h=>kU h fun h=>kU h fun h=>?_;obtain ⟨hk26,h⟩:=Q6a h;refine Q3a (W8 (c:=cS) (e:=1) (fun _=>rfl) sd hk26) (Ja (c:=cS) [((s_0.take i17.toNat).drop from16.toNat)] rfl ?_);show Exists _;exact ⟨(n0,(wrap .i64 (i17+1)),(wrap .i64 (i17+1)),(l18 ++ [((s_0.take i17.toNat).drop from16.toNat)])),h,Lc _,(rho [2]),Z6⟩
  show Exists _;exact ⟨(n0,from16,(wrap .i64 (i17+1)),l18),h,Lc _,(fun i=>i),Z6⟩
 refine kU h fun h=>kU h fun h=>?_;obtain ⟨hk29,h⟩:=Q6a h;refine Q3a (W8 (c:=cS) (e:=1) (fun _=>rfl) sd hk29) (Ja (c:=cS) [((s_0.take s_0.length).drop from16.toNat)] rfl ?_);obtain rfl:=Qe h;exact (frz_own (c:=cS) (l:=((l18 ++ [((s_0.take s_0.length).drop from16.toNat)]):List (List UInt8))) (fun _=>rfl) rfl trivial sd)
def Z3 (N:Nat) (v5:List (List UInt8)):Nat->Int->Option Bool
 | 0,_=>none
 | n+1,i62=>
  cond (Q0 .lss i62 ((Q7 cS v5).length:Int))
  ((idx v5 i62).bind fun y64=>
  (Xd N y64 43).bind fun v66=>
  cond v66
  ((idx v5 i62).bind fun y69=>
  cond (Q10 .neq y69 [43])
  (some false)
  ((idx v5 i62).bind fun y72=>
  (Xd N y72 35).bind fun v74=>
  cond v74
  ((idx v5 i62).bind fun y77=>
  cond (Q10 .neq y77 [35])
  (some false)
  (cond (Q0 .lss (wrap .i64 (i62+1)) ((Q7 cS v5).length:Int))
  (some false)
  (Z3 N v5 n (wrap .i64 (i62+1)))))
  (Z3 N v5 n (wrap .i64 (i62+1)))))
  ((idx v5 i62).bind fun y81=>
  (Xd N y81 35).bind fun v83=>
  cond v83
  ((idx v5 i62).bind fun y86=>
  cond (Q10 .neq y86 [35])
  (some false)
  (cond (Q0 .lss (wrap .i64 (i62+1)) ((Q7 cS v5).length:Int))
  (some false)
  (Z3 N v5 n (wrap .i64 (i62+1)))))
  (Z3 N v5 n (wrap .i64 (i62+1)))))
  (some true)
def Wl (N:Nat) (s_0:List UInt8):Option Bool:=
 cond (Q10 .eql s_0 [])
 (some false)
 ((X4 N s_0).bind fun v2=>
 cond (!v2)
 (some false)
 ((J5 N s_0).bind fun v5=>
 Z3 N v5 N 0))
def Q3j {N} {s_0} {r} (h:Wl N s_0=some r):pU 145 [.str s_0] (.bool r):=by
 refine Q1 Zmh ?_;unfold Wl at h;rw [cY] at h;refine iL h fun h=>cP h Wo p1 fun v2 h=>iL h fun h=>cP h Q8b p1 fun v5 h=>lpH (τ:=Int) (fun i62=>(a2 (.any :: .p (.slice 1 (Q7 cS v5))::iI i62::a16 (a16 (a16 ([])))):List AV)) (fun n0 i62=>Z3 N v5 n0 i62) (0) h fun n0 i62 h=>?_
 first | rw [Z3] at h | simp only [Z3] at h
 rw [cX,cY] at h;refine iR h fun h=>xR h fun y64 h=>cP h J8 p2 fun v66 h=>?_;apply iU h<;>intro h
 ·refine xR h fun y69 h=>iL h fun h=>xR h fun y72 h=>cP h J8 p2 fun v74 h=>?_;apply iU h<;>intro h
  ·refine xR h fun y77 h=>iL h fun h=>iL h fun h=>?_;exact cj
  exact cj
 refine xR h fun y81 h=>cP h J8 p2 fun v83 h=>?_;apply iU h<;>intro h
 ·refine xR h fun y86 h=>iL h fun h=>iL h fun h=>?_;exact cj
 exact cj
def Zp (N:Nat) (m:Xl):Option Int:=
 cond (Q0 .eql m.Type' 4)
 ((X4 N m.Name).bind fun v2=>
 cond (!v2)
 (some 6)
 (cond (Q0 .gtr (m.Name.length:Int) 23)
 (some 6)
 (cond (Q10 .eql m.Name [])
 (some 6)
 (some 0))))
 (cond (Q0 .eql m.Type' 22)
 ((X4 N m.Name).bind fun v8=>
 cond (!v8)
 (some 6)
 (cond (Q0 .gtr (m.Name.length:Int) 23)
 (some 6)
 (some 0)))
 (cond (Q0 .eql m.Type' 10)
 ((Zn N m.Name).bind fun v13=>
 cond (!v13)
 (some 10)
 (some 0))
 (cond (Q0 .eql m.Type' 7)
 (cond (Q10 .neq m.Name [])
 ((Zn N m.Name).bind fun v18=>
 cond (!v18)
 (some 10)
 (some 0))
 (some 0))
 (cond (Q0 .eql m.Type' 26)
 (cond (Q10 .neq m.Name [])
 ((Zn N m.Name).bind fun v23=>
 cond (!v23)
 (some 10)
 (some 0))
 (some 0))
 (cond (Q0 .eql m.Type' 18)
 (cond (Q0 .eql m.Flags.Type' 0)
 ((Wl N m.Name).bind fun v28=>
 cond (!v28)
 (some 10)
 (some 0))
 (some 0))
 (cond (Q0 .eql m.Type' 20)
 (cond (Q0 .eql m.Flags.Type' 0)
 ((Wl N m.Name).bind fun v33=>
 cond (!v33)
 (some 10)
 (some 0))
 (some 0))
 (cond (Q0 .eql m.Type' 2)
 (cond (Q0 .gtr (m.Name.length:Int) 16)
 (some 2)
 (some 0))
 (some 0))))))))
def U9 {N} {m} {r} (h:Zp N m=some r):pU 81 [.agg (Xl.cells m)] (.int .i64 r):=by
 refine Q1 k81 ?_;unfold Zp at h;rw [cX,cY] at h;refine ifO h (fun hc1 h=>?_) (fun hc1 h=>?_)
 ·refine ifT hc1 (cP h Wo p1 fun v2 h=>?_);exact iL h fun h=>iL h fun h=>ifT hc1 (iB h)
 apply iU h<;>intro h
 ·refine cP h Wo p1 fun v8 h=>iL h fun h=>iL h fun h=>ifF hc1 ?_;exact am
 apply iU h<;>intro h
 ·exact cP h X3 p1 fun v13 h=>iB h
 refine ifO h (fun hc16 h=>?_) (fun hc16 h=>?_)
 ·refine ifT hc16 (iR h fun h=>?_);exact cP h X3 p1 fun v18 h=>iB h
 apply iU h<;>intro h
 ·exact iR h fun h=>cP h X3 p1 fun v23 h=>iB h
 refine ifO h (fun hc26 h=>?_) (fun hc26 h=>?_)
 ·refine ifT hc26 (iR h fun h=>?_);exact cP h Q3j p1 fun v28 h=>iB h
 apply iU h<;>intro h
 ·exact iR h fun h=>cP h Q3j p1 fun v33 h=>iB h
 exact ij
def X7 (_N:Nat) (kind:Int):Option Bool:=
 cond (Q0 .eql kind 3)
 (some false)
 (cond (Q0 .eql kind 17)
 (some false)
 (cond (Q0 .eql kind 25)
 (some false)
 (cond (Q0 .geq kind 0)
 (cond (Q0 .leq kind 29)
 (some true)
 (some (Q0 .eql kind 254)))
 (some (Q0 .eql kind 254)))))
def G6 {N} {kind} {r} (h:X7 N kind=some r):pU 77 [.int .i64 kind] (.bool r):=by
 refine Q1 k77 ?_;unfold X7 at h;rw [cX] at h;refine ifO h (fun hc1 h=>?_) (fun hc1 h=>?_)
 ·refine ifT hc1 ?_;exact am
 refine ifO h (fun hc2 h=>?_) (fun hc2 h=>?_)
 ·refine ifT hc2 ?_;exact am
 exact iL h fun h=>iR h fun h=>iB h
def Zc (N:Nat) (kind:Int) (rest:Int):Option ((List UInt8)×Int):=
 (X7 N kind).bind fun v1=>
 cond (!v1)
 (some ([],8))
 (cond (Q0 .lss rest 0)
 (some ([],2))
 (cond (Q0 .leq rest 253)
 (some ([UInt8.ofNat (wrap .u8 (wrap .i64 (rest+2))).toNat,UInt8.ofNat (wrap .u8 kind).toNat],0))
 (cond (Q0 .gtr rest 65531)
 (some ([],4))
 ((Zm N (wrap .u64 (wrap .i64 (rest+4))) 2).bind fun v7=>
 cond (Nat.ble ([1].length+v7.length) 4611686018427387904) (cond (Nat.ble (([1]++v7).length + [UInt8.ofNat (wrap .u8 kind).toNat].length) 4611686018427387904) (some ((([1]++v7) ++ [UInt8.ofNat (wrap .u8 kind).toNat]),0)) none) none))))
def Wr {N} {kind} {rest} {r} (h:Zc N kind rest=some r):pU 82 [.int .i64 kind,.int .i64 rest] (.tuple [.str r.1,.int .i64 r.2]):=by
 refine Q1 k82 ?_;unfold Zc at h;rw [cX] at h;refine cP h G6 p1 fun v1 h=>iL2 h fun h=>iL2 h fun h=>iL2 h fun h=>iL2 h fun h=>Qd (cD h J2 p2 fun v7 h=>?_);refine kU h fun h=>kU h fun h=>?_;exact aU
def Xb (_N:Nat) (is:Bool) (n_1:Int):Option Int:=
 cond is
 (some n_1)
 (some 0)
def Xi {N} {is} {n_1} {r} (h:Xb N is n_1=some r):pU 194 [.bool is,.int .i64 n_1] (.int .i64 r):=by
 refine Q1 Zgl ?_;unfold Xb at h;exact iB h
def Xn (N:Nat) (f:Qz):Option (Int×Int):=
 cond (Q0 .lss f.QoS (-1))
 (some (0,7))
 (cond (Q0 .gtr f.QoS 2)
 (some (0,7))
 (cond (Q0 .lss f.Type' 0)
 (some (0,7))
 (cond (Q0 .gtr f.Type' 2)
 (some (0,7))
 (cond (Q0 .lss f.QoS 0)
 ((Xb N f.Dup 128).bind fun v6=>
 (Xb N f.Retain 16).bind fun v8=>
 (Xb N f.Will 8).bind fun v10=>
 (Xb N f.Clean 4).bind fun v12=>
 some ((wrap .i64 ((wrap .i64 ((wrap .i64 ((wrap .i64 ((wrap .i64 (v6+96))+v8))+v10))+v12))+f.Type')),0))
 ((Xb N f.Dup 128).bind fun v14=>
 (Xb N f.Retain 16).bind fun v16=>
 (Xb N f.Will 8).bind fun v18=>
 (Xb N f.Clean 4).bind fun v20=>
 some ((wrap .i64 ((wrap .i64 ((wrap .i64 ((wrap .i64 ((wrap .i64 (v14+(wrap .i64 (32 * f.QoS))))+v16))+v18))+v20))+f.Type')),0))))))
def Q4z {N} {f} {r} (h:Xn N f=some r):pU 140 [.agg (Qz.cells f)] (.tuple [.int .i64 r.1,.int .i64 r.2]):=by
 refine Q1 Zok ?_;unfold Xn at h;rw [cX] at h;refine iL2 h fun h=>iL2 h fun h=>iL2 h fun h=>iL2 h fun h=>?_;apply iU h<;>intro h
 ·refine Qd (cD h Xi p2 fun v6 h=>?_);refine cD h Xi p2 fun v8 h=>cD h Xi p2 fun v10 h=>cD h Xi p2 fun v12 h=>?_;exact aU
 refine Qd (cD h Xi p2 fun v14 h=>?_);refine cD h Xi p2 fun v16 h=>cD h Xi p2 fun v18 h=>cD h Xi p2 fun v20 h=>?_;exact aU
def Vs (_N:Nat) (m:Xl):Option (List Int):=
 cond (Q0 .eql m.Type' 0)
 (some [3,6])
 (cond (Q0 .eql m.Type' 1)
 (some [4])
 (cond (Q0 .eql m.Type' 2)
 (some [3,9])
 (cond (Q0 .eql m.Type' 4)
 (some [1,2,6,9])
 (cond (Q0 .eql m.Type' 5)
 (some [5])
 (cond (Q0 .eql m.Type' 27)
 (some [5])
 (cond (Q0 .eql m.Type' 29)
 (some [5])
 (cond (Q0 .eql m.Type' 7)
 (cond (Q10 .neq m.Name [])
 (some [1,9])
 (some []))
 (cond (Q0 .eql m.Type' 26)
 (cond (Q10 .neq m.Name [])
 (some [1,9])
 (some []))
 (cond (Q0 .eql m.Type' 9)
 (some [10])
 (cond (Q0 .eql m.Type' 28)
 (some [10])
 (cond (Q0 .eql m.Type' 10)
 (some [7,8,9])
 (cond (Q0 .eql m.Type' 11)
 (some [7,8,5])
 (cond (Q0 .eql m.Type' 13)
 (some [7,8,5])
 (cond (Q0 .eql m.Type' 12)
 (some [1,7,8,10])
 (cond (Q0 .eql m.Type' 14)
 (some [8])
 (cond (Q0 .eql m.Type' 15)
 (some [8])
 (cond (Q0 .eql m.Type' 16)
 (some [8])
 (cond (Q0 .eql m.Type' 21)
 (some [8])
 (cond (Q0 .eql m.Type' 18)
 (cond (Q0 .eql m.Flags.Type' 0)
 (some [1,8,9])
 (some [1,8,7]))
 (cond (Q0 .eql m.Type' 20)
 (cond (Q0 .eql m.Flags.Type' 0)
 (some [1,8,9])
 (some [1,8,7]))
 (cond (Q0 .eql m.Type' 19)
 (some [1,7,8,5])
 (cond (Q0 .eql m.Type' 22)
 (some [9])
 (cond (Q0 .eql m.Type' 24)
 (cond m.Timed
 (some [6])
 (some []))
 (some []))))))))))))))))))))))))
def Q4c {N} {m} {r} (h:Vs N m=some r):pU 141 [.agg (Xl.cells m)] (.slice 1 (Q7 (cI .i64) r)):=by
 refine Q1 Zh5 ?_;unfold Vs at h;rw [cX,cY] at h;apply iU h<;>intro h
 ·obtain rfl:=Qe h;exact (frz_own (c:=(cI .i64)) (l:=([3,6]:List Int)) (fun _=>rfl) rfl trivial sd)
 apply iU h<;>intro h
 ·obtain rfl:=Qe h;exact (frz_own (c:=(cI .i64)) (l:=([4]:List Int)) (fun _=>rfl) rfl trivial sd)
 apply iU h<;>intro h
 ·obtain rfl:=Qe h;exact (frz_own (c:=(cI .i64)) (l:=([3,9]:List Int)) (fun _=>rfl) rfl trivial sd)
 apply iU h<;>intro h
 ·obtain rfl:=Qe h;exact (frz_own (c:=(cI .i64)) (l:=([1,2,6,9]:List Int)) (fun _=>rfl) rfl trivial sd)
 refine ifO h (fun hc5 h=>?_) (fun hc5 h=>?_)
 ·refine ifT hc5 ?_;exact cA
 refine ifO h (fun hc6 h=>?_) (fun hc6 h=>?_)
 ·refine ifT hc6 ?_;exact cA
 apply iU h<;>intro h
 ·exact cA
 refine ifO h (fun hc8 h=>?_) (fun hc8 h=>?_)
 ·refine ifT hc8 ?_;apply iU h<;>intro h
  ·exact eS
  exact fW
 apply iU h<;>intro h
 ·apply iU h<;>intro h
  ·exact eS
  exact fW
 refine ifO h (fun hc12 h=>?_) (fun hc12 h=>?_)
 ·refine ifT hc12 ?_;exact eU
 apply iU h<;>intro h
 ·exact eU
 apply iU h<;>intro h
 ·obtain rfl:=Qe h;exact (frz_own (c:=(cI .i64)) (l:=([7,8,9]:List Int)) (fun _=>rfl) rfl trivial sd)
 refine ifO h (fun hc15 h=>?_) (fun hc15 h=>?_)
 ·refine ifT hc15 ?_;exact eM
 apply iU h<;>intro h
 ·exact eM
 apply iU h<;>intro h
 ·obtain rfl:=Qe h;exact (frz_own (c:=(cI .i64)) (l:=([1,7,8,10]:List Int)) (fun _=>rfl) rfl trivial sd)
 refine ifO h (fun hc18 h=>?_) (fun hc18 h=>?_)
 ·refine ifT hc18 ?_;exact bu
 refine ifO h (fun hc19 h=>?_) (fun hc19 h=>?_)
 ·refine ifT hc19 ?_;exact bu
 refine ifO h (fun hc20 h=>?_) (fun hc20 h=>?_)
 ·refine ifT hc20 ?_;exact bu
 apply iU h<;>intro h
 ·exact bu
 refine ifO h (fun hc22 h=>?_) (fun hc22 h=>?_)
 ·refine ifT hc22 ?_;apply iU h<;>intro h
  ·exact eL
  exact eK
 apply iU h<;>intro h
 ·apply iU h<;>intro h
  ·exact eL
  exact eK
 apply iU h<;>intro h
 ·obtain rfl:=Qe h;exact (frz_own (c:=(cI .i64)) (l:=([1,7,8,5]:List Int)) (fun _=>rfl) rfl trivial sd)
 apply iU h<;>intro h
 ·obtain rfl:=Qe h;exact (frz_own (c:=(cI .i64)) (l:=([9]:List Int)) (fun _=>rfl) rfl trivial sd)
 apply iU h<;>intro h
 ·apply iU h<;>intro h
  ·obtain rfl:=Qe h;exact (frz_own (c:=(cI .i64)) (l:=([6]:List Int)) (fun _=>rfl) rfl trivial sd)
  exact fW
 exact fW
def Qo (N:Nat) (m:Xl) (v1:List Int):Nat->(List UInt8)->Int->Option (List UInt8)
 | 0,_,_=>none
 | n+1,out64,i65=>
  cond (Q0 .lss i65 ((Q7 (cI .i64) v1).length:Int))
  ((idx v1 i65).bind fun y67=>
  cond (Q0 .eql y67 1)
  ((Xn N m.Flags).bind fun v70=>
  cond (Nat.ble (out64.length + [UInt8.ofNat (wrap .u8 v70.1).toNat].length) 4611686018427387904) (Qo N m v1 n (out64 ++ [UInt8.ofNat (wrap .u8 v70.1).toNat]) (wrap .i64 (i65+1))) none)
  (cond (Q0 .eql y67 2)
  (cond (Nat.ble (out64.length + [1].length) 4611686018427387904) (Qo N m v1 n (out64 ++ [1]) (wrap .i64 (i65+1))) none)
  (cond (Q0 .eql y67 3)
  (cond (Nat.ble (out64.length + [UInt8.ofNat (wrap .u8 m.Gateway).toNat].length) 4611686018427387904) (Qo N m v1 n (out64 ++ [UInt8.ofNat (wrap .u8 m.Gateway).toNat]) (wrap .i64 (i65+1))) none)
  (cond (Q0 .eql y67 4)
  (cond (Nat.ble (out64.length + [UInt8.ofNat (wrap .u8 m.Radius).toNat].length) 4611686018427387904) (Qo N m v1 n (out64 ++ [UInt8.ofNat (wrap .u8 m.Radius).toNat]) (wrap .i64 (i65+1))) none)
  (cond (Q0 .eql y67 5)
  (cond (Nat.ble (out64.length + [UInt8.ofNat (wrap .u8 m.Code).toNat].length) 4611686018427387904) (Qo N m v1 n (out64 ++ [UInt8.ofNat (wrap .u8 m.Code).toNat]) (wrap .i64 (i65+1))) none)
  (cond (Q0 .eql y67 6)
  ((Zm N (wrap .u64 m.Time) 2).bind fun v82=>
  cond (Nat.ble (out64.length+v82.length) 4611686018427387904) (Qo N m v1 n (out64++v82) (wrap .i64 (i65+1))) none)
  (cond (Q0 .eql y67 7)
  ((Zm N (wrap .u64 m.TopicID) 2).bind fun v86=>
  cond (Nat.ble (out64.length+v86.length) 4611686018427387904) (Qo N m v1 n (out64++v86) (wrap .i64 (i65+1))) none)
  (cond (Q0 .eql y67 8)
  ((Zm N (wrap .u64 m.MsgID) 2).bind fun v90=>
  cond (Nat.ble (out64.length+v90.length) 4611686018427387904) (Qo N m v1 n (out64++v90) (wrap .i64 (i65+1))) none)
  (cond (Q0 .eql y67 9)
  (cond (Nat.ble (out64.length+m.Name.length) 4611686018427387904) (Qo N m v1 n (out64++m.Name) (wrap .i64 (i65+1))) none)
  (cond (Nat.ble (out64.length+m.Data.length) 4611686018427387904) (Qo N m v1 n (out64++m.Data) (wrap .i64 (i65+1))) none))))))))))
  (some out64)
def Zi (N:Nat) (m:Xl):Option (List UInt8):=
 (Vs N m).bind fun v1=>
 Qo N m v1 N [] 0
def V3 {N} {m} {r} (h:Zi N m=some r):pU 83 [.agg (Xl.cells m)] (.str r):=by
 refine Q1 k83 ?_;unfold Zi at h;refine cP h Q4c (.cons (Ar (f8_ (f2_ (.cons (.p _) p5)))) .nil) fun v1 h=>lpH (τ:=(List UInt8)×Int) (fun ⟨out64,i65⟩=>(.any :: .ptr 0 0 :: .any :: .p (.slice 1 (Q7 (cI .i64) v1))::iS out64::iI i65::a16 (a16 (a16 (a16 (a16 (a8 (a4 (a2 ([])))))))):List AV)) (fun n0 ⟨out64,i65⟩=>Qo N m v1 n0 out64 i65) ([],0) h fun n0 ⟨out64,i65⟩ h=>?_
 first | rw [Qo] at h | simp only [Qo] at h
 rw [cX] at h;refine iR h fun h=>xR h fun y67 h=>?_;apply iU h<;>intro h
 ·refine cP h Q4z (.cons (Ar (.cons (.p _) p5)) .nil) fun v70 h=>kU h fun h=>?_;show Exists _;exact ⟨(n0,(out64 ++ [UInt8.ofNat (wrap .u8 v70.1).toNat]),(wrap .i64 (i65+1))),h,Lc _,(fun i=>i),Z6⟩
 apply iU h<;>intro h
 ·refine kU h fun h=>?_;show Exists _;exact ⟨(n0,(out64 ++ [1]),(wrap .i64 (i65+1))),h,Lc _,(fun i=>i),Z6⟩
 apply iU h<;>intro h
 ·refine kU h fun h=>?_;show Exists _;exact ⟨(n0,(out64 ++ [UInt8.ofNat (wrap .u8 m.Gateway).toNat]),(wrap .i64 (i65+1))),h,Lc _,(fun i=>i),Z6⟩
 apply iU h<;>intro h
 ·refine kU h fun h=>?_;show Exists _;exact ⟨(n0,(out64 ++ [UInt8.ofNat (wrap .u8 m.Radius).toNat]),(wrap .i64 (i65+1))),h,Lc _,(fun i=>i),Z6⟩
 apply iU h<;>intro h
 ·refine kU h fun h=>?_;show Exists _;exact ⟨(n0,(out64 ++ [UInt8.ofNat (wrap .u8 m.Code).toNat]),(wrap .i64 (i65+1))),h,Lc _,(fun i=>i),Z6⟩
 apply iU h<;>intro h
 ·refine cP h J2 p2 fun v82 h=>kU h fun h=>?_;show Exists _;exact ⟨(n0,(out64++v82),(wrap .i64 (i65+1))),h,Lc _,(fun i=>i),Z6⟩
 apply iU h<;>intro h
 ·refine cP h J2 p2 fun v86 h=>kU h fun h=>?_;show Exists _;exact ⟨(n0,(out64++v86),(wrap .i64 (i65+1))),h,Lc _,(fun i=>i),Z6⟩
 apply iU h<;>intro h
 ·refine cP h J2 p2 fun v90 h=>kU h fun h=>?_;show Exists _;exact ⟨(n0,(out64++v90),(wrap .i64 (i65+1))),h,Lc _,(fun i=>i),Z6⟩
 apply iU h<;>intro h
 ·refine kU h fun h=>?_;show Exists _;exact ⟨(n0,(out64++m.Name),(wrap .i64 (i65+1))),h,Lc _,(fun i=>i),Z6⟩
 refine kU h fun h=>?_;show Exists _;exact ⟨(n0,(out64++m.Data),(wrap .i64 (i65+1))),h,Lc _,(fun i=>i),Z6⟩
def Gh (_N:Nat) (kind:Int):Option (Qz):=
 cond (Q0 .eql kind 4)
 (some (⟨false,0,false,true,true,0⟩:Qz))
 (cond (Q0 .eql kind 7)
 (some (⟨false,1,true,false,false,0⟩:Qz))
 (cond (Q0 .eql kind 26)
 (some (⟨false,1,true,false,false,0⟩:Qz))
 (cond (Q0 .eql kind 12)
 (some (⟨true,1,true,false,false,1⟩:Qz))
 (cond (Q0 .eql kind 18)
 (some (⟨true,1,false,false,false,1⟩:Qz))
 (cond (Q0 .eql kind 20)
 (some (⟨false,0,false,false,false,1⟩:Qz))
 (cond (Q0 .eql kind 19)
 (some (⟨false,1,false,false,false,0⟩:Qz))
 (some (⟨false,0,false,false,false,0⟩:Qz))))))))
def Qa5 {N} {kind} {r} (h:Gh N kind=some r):pU 139 [.int .i64 kind] (.agg (Qz.cells r)):=by
 refine Q1 Zli ?_;unfold Gh at h;rw [cX] at h;apply iU h<;>intro h
 ·exact aI
 refine ifO h (fun hc2 h=>?_) (fun hc2 h=>?_)
 ·refine ifT hc2 ?_;exact aI
 apply iU h<;>intro h
 ·exact aI
 apply iU h<;>intro h
 ·exact aI
 apply iU h<;>intro h
 ·exact aI
 apply iU h<;>intro h
 ·exact aI
 apply iU h<;>intro h
 ·exact aI
 exact aI
def Wx (N:Nat) (kind:Int) (f:Qz):Option Bool:=
 (Gh N kind).bind fun v1=>
 (Xn N f).bind fun v3=>
 cond (Q0 .eql v3.2 0)
 (cond v1.Dup
 (cond (Q0 .eql v1.QoS 1)
 (cond v1.Retain
 (cond v1.Will
 (cond v1.Clean
 (cond (Q0 .eql v1.Type' 1)
 (cond (Q0 .geq f.QoS 0)
 (some true)
 (some (Q0 .eql kind 12)))
 (cond (Q0 .eql f.Type' 0)
 (cond (Q0 .geq f.QoS 0)
 (some true)
 (some (Q0 .eql kind 12)))
 (some false)))
 (cond (!f.Clean)
 (cond (Q0 .eql v1.Type' 1)
 (cond (Q0 .geq f.QoS 0)
 (some true)
 (some (Q0 .eql kind 12)))
 (cond (Q0 .eql f.Type' 0)
 (cond (Q0 .geq f.QoS 0)
 (some true)
 (some (Q0 .eql kind 12)))
 (some false)))
 (some false)))
 (cond (!f.Will)
 (cond v1.Clean
 (cond (Q0 .eql v1.Type' 1)
 (cond (Q0 .geq f.QoS 0)
 (some true)
 (some (Q0 .eql kind 12)))
 (cond (Q0 .eql f.Type' 0)
 (cond (Q0 .geq f.QoS 0)
 (some true)
 (some (Q0 .eql kind 12)))
 (some false)))
 (cond (!f.Clean)
 (cond (Q0 .eql v1.Type' 1)
 (cond (Q0 .geq f.QoS 0)
 (some true)
 (some (Q0 .eql kind 12)))
 (cond (Q0 .eql f.Type' 0)
 (cond (Q0 .geq f.QoS 0)
 (some true)
 (some (Q0 .eql kind 12)))
 (some false)))
 (some false)))
 (some false)))
 (cond (!f.Retain)
 (cond v1.Will
 (cond v1.Clean
 (cond (Q0 .eql v1.Type' 1)
 (cond (Q0 .geq f.QoS 0)
 (some true)
 (some (Q0 .eql kind 12)))
 (cond (Q0 .eql f.Type' 0)
 (cond (Q0 .geq f.QoS 0)
 (some true)
 (some (Q0 .eql kind 12)))
 (some false)))
 (cond (!f.Clean)
 (cond (Q0 .eql v1.Type' 1)
 (cond (Q0 .geq f.QoS 0)
 (some true)
 (some (Q0 .eql kind 12)))
 (cond (Q0 .eql f.Type' 0)
 (cond (Q0 .geq f.QoS 0)
 (some true)
 (some (Q0 .eql kind 12)))
 (some false)))
 (some false)))
 (cond (!f.Will)
 (cond v1.Clean
 (cond (Q0 .eql v1.Type' 1)
 (cond (Q0 .geq f.QoS 0)
 (some true)
 (some (Q0 .eql kind 12)))
 (cond (Q0 .eql f.Type' 0)
 (cond (Q0 .geq f.QoS 0)
 (some true)
 (some (Q0 .eql kind 12)))
 (some false)))
 (cond (!f.Clean)
 (cond (Q0 .eql v1.Type' 1)
 (cond (Q0 .geq f.QoS 0)
 (some true)
 (some (Q0 .eql kind 12)))
 (cond (Q0 .eql f.Type' 0)
 (cond (Q0 .geq f.QoS 0)
 (some true)
 (some (Q0 .eql kind 12)))
 (some false)))
 (some false)))
 (some false)))
 (some false)))
 (cond (Q0 .eql f.QoS 0)
 (cond v1.Retain
 (cond v1.Will
 (cond v1.Clean
 (cond (Q0 .eql v1.Type' 1)
 (cond (Q0 .geq f.QoS 0)
 (some true)
 (some (Q0 .eql kind 12)))
 (cond (Q0 .eql f.Type' 0)
 (cond (Q0 .geq f.QoS 0)
 (some true)
 (some (Q0 .eql kind 12)))
 (some false)))
 (cond (!f.Clean)
 (cond (Q0 .eql v1.Type' 1)
 (cond (Q0 .geq f.QoS 0)
 (some true)
 (some (Q0 .eql kind 12)))
 (cond (Q0 .eql f.Type' 0)
 (cond (Q0 .geq f.QoS 0)
 (some true)
 (some (Q0 .eql kind 12)))
 (some false)))
 (some false)))
 (cond (!f.Will)
 (cond v1.Clean
 (cond (Q0 .eql v1.Type' 1)
 (cond (Q0 .geq f.QoS 0)
 (some true)
 (some (Q0 .eql kind 12)))
 (cond (Q0 .eql f.Type' 0)
 (cond (Q0 .geq f.QoS 0)
 (some true)
 (some (Q0 .eql kind 12)))
 (some false)))
 (cond (!f.Clean)
 (cond (Q0 .eql v1.Type' 1)
 (cond (Q0 .geq f.QoS 0)
 (some true)
 (some (Q0 .eql kind 12)))
 (cond (Q0 .eql f.Type' 0)
 (cond (Q0 .geq f.QoS 0)
 (some true)
 (some (Q0 .eql kind 12)))
 (some false)))
 (some false)))
 (some false)))
 (cond (!f.Retain)
 (cond v1.Will
 (cond v1.Clean
 (cond (Q0 .eql v1.Type' 1)
 (cond (Q0 .geq f.QoS 0)
 (some true)
 (some (Q0 .eql kind 12)))
 (cond (Q0 .eql f.Type' 0)
 (cond (Q0 .geq f.QoS 0)
 (some true)
 (some (Q0 .eql kind 12)))
 (some false)))
 (cond (!f.Clean)
 (cond (Q0 .eql v1.Type' 1)
 (cond (Q0 .geq f.QoS 0)
 (some true)
 (some (Q0 .eql kind 12)))
 (cond (Q0 .eql f.Type' 0)
 (cond (Q0 .geq f.QoS 0)
 (some true)
 (some (Q0 .eql kind 12)))
 (some false)))
 (some false)))
 (cond (!f.Will)
 (cond v1.Clean
 (cond (Q0 .eql v1.Type' 1)
 (cond (Q0 .geq f.QoS 0)
 (some true)
 (some (Q0 .eql kind 12)))
 (cond (Q0 .eql f.Type' 0)
 (cond (Q0 .geq f.QoS 0)
 (some true)
 (some (Q0 .eql kind 12)))
 (some false)))
 (cond (!f.Clean)
 (cond (Q0 .eql v1.Type' 1)
 (cond (Q0 .geq f.QoS 0)
 (some true)
 (some (Q0 .eql kind 12)))
 (cond (Q0 .eql f.Type' 0)
 (cond (Q0 .geq f.QoS 0)
 (some true)
 (some (Q0 .eql kind 12)))
 (some false)))
 (some false)))
 (some false)))
 (some false)))
 (some false)))
 (cond (!f.Dup)
 (cond (Q0 .eql v1.QoS 1)
 (cond v1.Retain
 (cond v1.Will
 (cond v1.Clean
 (cond (Q0 .eql v1.Type' 1)
 (cond (Q0 .geq f.QoS 0)
 (some true)
 (some (Q0 .eql kind 12)))
 (cond (Q0 .eql f.Type' 0)
 (cond (Q0 .geq f.QoS 0)
 (some true)
 (some (Q0 .eql kind 12)))
 (some false)))
 (cond (!f.Clean)
 (cond (Q0 .eql v1.Type' 1)
 (cond (Q0 .geq f.QoS 0)
 (some true)
 (some (Q0 .eql kind 12)))
 (cond (Q0 .eql f.Type' 0)
 (cond (Q0 .geq f.QoS 0)
 (some true)
 (some (Q0 .eql kind 12)))
 (some false)))
 (some false)))
 (cond (!f.Will)
 (cond v1.Clean
 (cond (Q0 .eql v1.Type' 1)
 (cond (Q0 .geq f.QoS 0)
 (some true)
 (some (Q0 .eql kind 12)))
 (cond (Q0 .eql f.Type' 0)
 (cond (Q0 .geq f.QoS 0)
 (some true)
 (some (Q0 .eql kind 12)))
 (some false)))
 (cond (!f.Clean)
 (cond (Q0 .eql v1.Type' 1)
 (cond (Q0 .geq f.QoS 0)
 (some true)
 (some (Q0 .eql kind 12)))
 (cond (Q0 .eql f.Type' 0)
 (cond (Q0 .geq f.QoS 0)
 (some true)
 (some (Q0 .eql kind 12)))
 (some false)))
 (some false)))
 (some false)))
 (cond (!f.Retain)
 (cond v1.Will
 (cond v1.Clean
 (cond (Q0 .eql v1.Type' 1)
 (cond (Q0 .geq f.QoS 0)
 (some true)
 (some (Q0 .eql kind 12)))
 (cond (Q0 .eql f.Type' 0)
 (cond (Q0 .geq f.QoS 0)
 (some true)
 (some (Q0 .eql kind 12)))
 (some false)))
 (cond (!f.Clean)
 (cond (Q0 .eql v1.Type' 1)
 (cond (Q0 .geq f.QoS 0)
 (some true)
 (some (Q0 .eql kind 12)))
 (cond (Q0 .eql f.Type' 0)
 (cond (Q0 .geq f.QoS 0)
 (some true)
 (some (Q0 .eql kind 12)))
 (some false)))
 (some false)))
 (cond (!f.Will)
 (cond v1.Clean
 (cond (Q0 .eql v1.Type' 1)
 (cond (Q0 .geq f.QoS 0)
 (some true)
 (some (Q0 .eql kind 12)))
 (cond (Q0 .eql f.Type' 0)
 (cond (Q0 .geq f.QoS 0)
 (some true)
 (some (Q0 .eql kind 12)))
 (some false)))
 (cond (!f.Clean)
 (cond (Q0 .eql v1.Type' 1)
 (cond (Q0 .geq f.QoS 0)
 (some true)
 (some (Q0 .eql kind 12)))
 (cond (Q0 .eql f.Type' 0)
 (cond (Q0 .geq f.QoS 0)
 (some true)
 (some (Q0 .eql kind 12)))
 (some false)))
 (some false)))
 (some false)))
 (some false)))
 (cond (Q0 .eql f.QoS 0)
 (cond v1.Retain
 (cond v1.Will
 (cond v1.Clean
 (cond (Q0 .eql v1.Type' 1)
 (cond (Q0 .geq f.QoS 0)
 (some true)
 (some (Q0 .eql kind 12)))
 (cond (Q0 .eql f.Type' 0)
 (cond (Q0 .geq f.QoS 0)
 (some true)
 (some (Q0 .eql kind 12)))
 (some false)))
 (cond (!f.Clean)
 (cond (Q0 .eql v1.Type' 1)
 (cond (Q0 .geq f.QoS 0)
 (some true)
 (some (Q0 .eql kind 12)))
 (cond (Q0 .eql f.Type' 0)
 (cond (Q0 .geq f.QoS 0)
 (some true)
 (some (Q0 .eql kind 12)))
 (some false)))
 (some false)))
 (cond (!f.Will)
 (cond v1.Clean
 (cond (Q0 .eql v1.Type' 1)
 (cond (Q0 .geq f.QoS 0)
 (some true)
 (some (Q0 .eql kind 12)))
 (cond (Q0 .eql f.Type' 0)
 (cond (Q0 .geq f.QoS 0)
 (some true)
 (some (Q0 .eql kind 12)))
 (some false)))
 (cond (!f.Clean)
 (cond (Q0 .eql v1.Type' 1)
 (cond (Q0 .geq f.QoS 0)
 (some true)
 (some (Q0 .eql kind 12)))
 (cond (Q0 .eql f.Type' 0)
 (cond (Q0 .geq f.QoS 0)
 (some true)
 (some (Q0 .eql kind 12)))
 (some false)))
 (some false)))
 (some false)))
 (cond (!f.Retain)
 (cond v1.Will
 (cond v1.Clean
 (cond (Q0 .eql v1.Type' 1)
 (cond (Q0 .geq f.QoS 0)
 (some true)
 (some (Q0 .eql kind 12)))
 (cond (Q0 .eql f.Type' 0)
 (cond (Q0 .geq f.QoS 0)
 (some true)
 (some (Q0 .eql kind 12)))
 (some false)))
 (cond (!f.Clean)
 (cond (Q0 .eql v1.Type' 1)
 (cond (Q0 .geq f.QoS 0)
 (some true)
 (some (Q0 .eql kind 12)))
 (cond (Q0 .eql f.Type' 0)
 (cond (Q0 .geq f.QoS 0)
 (some true)
 (some (Q0 .eql kind 12)))
 (some false)))
 (some false)))
 (cond (!f.Will)
 (cond v1.Clean
 (cond (Q0 .eql v1.Type' 1)
 (cond (Q0 .geq f.QoS 0)
 (some true)
 (some (Q0 .eql kind 12)))
 (cond (Q0 .eql f.Type' 0)
 (cond (Q0 .geq f.QoS 0)
 (some true)
 (some (Q0 .eql kind 12)))
 (some false)))
 (cond (!f.Clean)
 (cond (Q0 .eql v1.Type' 1)
 (cond (Q0 .geq f.QoS 0)
 (some true)
 (some (Q0 .eql kind 12)))
 (cond (Q0 .eql f.Type' 0)
 (cond (Q0 .geq f.QoS 0)
 (some true)
 (some (Q0 .eql kind 12)))
 (some false)))
 (some false)))
 (some false)))
 (some false)))
 (some false)))
 (some false)))
 (some false)
def Q2d {N} {kind} {f} {r} (h:Wx N kind f=some r):pU 78 [.int .i64 kind,.agg (Qz.cells f)] (.bool r):=by
 refine Q1 k78 ?_;unfold Wx at h;rw [cX] at h;refine cP h Qa5 p1 fun v1 h=>cP h Q4z (.cons (Ar (.cons (.p _) p5)) .nil) fun v3 h=>iR h fun h=>?_;apply iU h<;>intro h
 ·apply iU h<;>intro h
  ·apply iU h<;>intro h
   ·exact dN
   exact cy
  exact hU
 refine iR h fun h=>?_;apply iU h<;>intro h
 ·apply iU h<;>intro h
  ·exact dN
  exact cy
 exact hU
def Xj (N:Nat) (l:List Int) (part:Int):Nat->Int->Option Bool
 | 0,_=>none
 | n+1,i10=>
  cond (Q0 .lss i10 ((Q7 (cI .i64) l).length:Int))
  ((idx l i10).bind fun y12=>
  cond (Q0 .eql y12 part)
  (some true)
  (Xj N l part n (wrap .i64 (i10+1))))
  (some false)
def Y0 (N:Nat) (l:List Int) (part:Int):Option Bool:=
 Xj N l part N 0
def Yd {N} {l} {part} {r} (h:Y0 N l part=some r):pU 142 [.slice 1 (Q7 (cI .i64) l),.int .i64 part] (.bool r):=by
 refine Q1 Zs4 ?_;unfold Y0 at h;refine lpH (τ:=Int) (fun i10=>(.p (.slice 1 (Q7 (cI .i64) l))::iI part::a2 (.any::iI i10::a8 (a4 ([]))):List AV)) (fun n0 i10=>Xj N l part n0 i10) (0) h fun n0 i10 h=>?_
 first | rw [Xj] at h | simp only [Xj] at h
 rw [cX] at h;refine iR h fun h=>xR h fun y12 h=>iL h fun h=>?_;exact gD
def Yy (_N:Nat) (n_0:Int) (most:Int) (used:Bool):Option Bool:=
 cond (Q0 .geq n_0 0)
 (cond (Q0 .leq n_0 most)
 (cond used
 (some true)
 (some (Q0 .eql n_0 0)))
 (some false))
 (some false)
def V0 {N} {n_0} {most} {used} {r} (h:Yy N n_0 most used=some r):pU 143 [.int .i64 n_0,.int .i64 most,.bool used] (.bool r):=by
 refine Q1 Zeo ?_;unfold Yy at h;exact bW
end
end
end Go.Av
