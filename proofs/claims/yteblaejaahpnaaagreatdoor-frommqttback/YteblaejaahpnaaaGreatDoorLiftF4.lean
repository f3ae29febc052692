/- Part of the proof of FrommqttBack: for every input the law returns true; no condition. -/
import Derived.Test.YteblaejaahpnaaaGreatDoorLiftF3
set_option linter.all false
open Go.IntKind (wrap)
namespace Go.Av
noncomputable section
open Go.Proofs
set_option maxRecDepth 100000
set_option maxHeartbeats 4000000
attribute [local irreducible] Gu U7 Qdf Qij Qut Qug Qi3
section
def Y3 (N:Nat) (s1_0:List Q3f) (s2_1:List Q3f):Nat→Int→Option Bool
 | 0,_=>none
 | n+1,s15=>
  cond (Q3 .lss s15 ((Q6 Q3f.cells s1_0).length:Int))
  ((idx s1_0 s15).bind fun y17=>
  (idx s2_1 s15).bind fun y19=>
  cond (!(((y17.Radius:Int) == y19.Radius)&&(((y17.Node:List UInt8) == y19.Node)&&true)))
  (some false)
  (Y3 N s1_0 s2_1 n (wrap .i64 (s15+1))))
  (some true)
def Xq (N:Nat) (s1_0:List Q3f) (s2_1:List Q3f):Option Bool:=
 cond (Q3 .neq ((Q6 Q3f.cells s1_0).length:Int) ((Q6 Q3f.cells s2_1).length:Int))
 (some false)
 (Y3 N s1_0 s2_1 N 0)
theorem Q4m {N} {s1_0} {s2_1} {r} (h:Xq N s1_0 s2_1=some r):pU 188 [.slice 2 (Q6 Q3f.cells s1_0),.slice 2 (Q6 Q3f.cells s2_1)] (.bool r):=by
 refine Q0 Z9d ?_;unfold Xq at h;rw [cX] at h;refine iL h fun h=>?_;refine lpH (τ:=Int) (fun s15=>(.p (.slice 2 (Q6 Q3f.cells s1_0)) :: .p (.slice 2 (Q6 Q3f.cells s2_1))::a8 (a2 (iI ((Q6 Q3f.cells s1_0).length:Int)::iI s15::a8 (a4 ([])))):List AV)) (fun n0 s15=>Y3 N s1_0 s2_1 n0 s15) (0) h fun n0 s15 h=>?_
 first | rw [Y3] at h | simp only [Y3] at h
 rw [cX] at h;refine iR h fun h=>?_;refine Qk ?_;refine xR h fun y17 h=>?_;refine xR h fun y19 h=>?_;refine iL h fun h=>?_;show Exists _;exact ⟨(n0,(wrap .i64 (s15+1))),h,Lf _,(fun i=>i),Yn⟩
def Q0r (N:Nat) (a:Qe) (b:Qe):Option Bool:=
 cond (Q3 .neq a.Proto b.Proto)
 (some false)
 (cond (Q3 .neq a.Kind b.Kind)
 (some false)
 (cond (Q0p .neq a.Topic b.Topic)
 (some false)
 (cond (Q0p .neq a.Payload b.Payload)
 (some false)
 (cond (Q3 .neq a.QoS b.QoS)
 (some false)
 (cond (!(a.Retain == b.Retain))
 (some false)
 (cond (!(a.Dup == b.Dup))
 (some false)
 (cond (Q3 .neq a.ID b.ID)
 (some false)
 (cond (Q3 .neq a.Type' b.Type')
 (some false)
 (cond (Q3 .neq a.Channel b.Channel)
 (some false)
 ((Q72 N a.Props b.Props).bind fun v11=>
 cond v11
 ((Xq N a.Hops b.Hops).bind fun v14=>
 cond v14
 ((Z6 N a.Packet b.Packet).bind fun v17=>
 cond v17
 (cond (((a.Msg.Type':Int) == b.Msg.Type')&&(((a.Msg.Flags.Dup:Bool) == b.Msg.Flags.Dup)&&(((a.Msg.Flags.QoS:Int) == b.Msg.Flags.QoS)&&(((a.Msg.Flags.Retain:Bool) == b.Msg.Flags.Retain)&&(((a.Msg.Flags.Will:Bool) == b.Msg.Flags.Will)&&(((a.Msg.Flags.Clean:Bool) == b.Msg.Flags.Clean)&&(((a.Msg.Flags.Type':Int) == b.Msg.Flags.Type')&&(((a.Msg.Gateway:Int) == b.Msg.Gateway)&&(((a.Msg.Radius:Int) == b.Msg.Radius)&&(((a.Msg.Time:Int) == b.Msg.Time)&&(((a.Msg.Timed:Bool) == b.Msg.Timed)&&(((a.Msg.TopicID:Int) == b.Msg.TopicID)&&(((a.Msg.MsgID:Int) == b.Msg.MsgID)&&(((a.Msg.Code:Int) == b.Msg.Code)&&(((a.Msg.Name:List UInt8) == b.Msg.Name)&&(((a.Msg.Data:List UInt8) == b.Msg.Data)&&true))))))))))))))))
 ((Q08 N a.Frame b.Frame).bind fun v21=>
 some v21)
 (some false))
 (some false))
 (some false))
 (some false)))))))))))
theorem Q5a {N} {a} {b} {r} (h:Q0r N a b=some r):pU 112 [.agg (Qe.cells a),.agg (Qe.cells b)] (.bool r):=by
 refine Q0 Zl3 ?_;unfold Q0r at h;rw [cX,cY] at h;refine iL h fun h=>?_;refine iL h fun h=>?_;refine iL h fun h=>?_;refine iL h fun h=>?_;refine iL h fun h=>?_;refine iL h fun h=>?_;refine iL h fun h=>?_;refine iL h fun h=>?_;refine iL h fun h=>?_;refine iL h fun h=>?_;refine cP h Qjx p2 fun v11 h=>?_;refine iR h fun h=>?_;refine cP h Q4m p2 fun v14 h=>?_;refine iR h fun h=>?_;refine cP h Zc (.cons (Ap (Qo (f2_ (f1_ (.cons (.p _) p5))))) (.cons (Ap (Qo (f2_ (f1_ (.cons (.p _) p5))))) .nil)) fun v17 h=>?_;refine iR h fun h=>?_;refine Qn9 (ks := [0,2,0,2,2,2,0,0,0,0,2,0,0,0,1,1]) (xs := [iI a.Msg.Type',.p (.bool a.Msg.Flags.Dup),iI a.Msg.Flags.QoS,.p (.bool a.Msg.Flags.Retain),.p (.bool a.Msg.Flags.Will),.p (.bool a.Msg.Flags.Clean),iI a.Msg.Flags.Type',iI a.Msg.Gateway,iI a.Msg.Radius,iI a.Msg.Time,.p (.bool a.Msg.Timed),iI a.Msg.TopicID,iI a.Msg.MsgID,iI a.Msg.Code,iS a.Msg.Name,iS a.Msg.Data]) (ys := [iI b.Msg.Type',.p (.bool b.Msg.Flags.Dup),iI b.Msg.Flags.QoS,.p (.bool b.Msg.Flags.Retain),.p (.bool b.Msg.Flags.Will),.p (.bool b.Msg.Flags.Clean),iI b.Msg.Flags.Type',iI b.Msg.Gateway,iI b.Msg.Radius,iI b.Msg.Time,.p (.bool b.Msg.Timed),iI b.Msg.TopicID,iI b.Msg.MsgID,iI b.Msg.Code,iS b.Msg.Name,iS b.Msg.Data]) (b:=(((a.Msg.Type':Int) == b.Msg.Type')&&(((a.Msg.Flags.Dup:Bool) == b.Msg.Flags.Dup)&&(((a.Msg.Flags.QoS:Int) == b.Msg.Flags.QoS)&&(((a.Msg.Flags.Retain:Bool) == b.Msg.Flags.Retain)&&(((a.Msg.Flags.Will:Bool) == b.Msg.Flags.Will)&&(((a.Msg.Flags.Clean:Bool) == b.Msg.Flags.Clean)&&(((a.Msg.Flags.Type':Int) == b.Msg.Flags.Type')&&(((a.Msg.Gateway:Int) == b.Msg.Gateway)&&(((a.Msg.Radius:Int) == b.Msg.Radius)&&(((a.Msg.Time:Int) == b.Msg.Time)&&(((a.Msg.Timed:Bool) == b.Msg.Timed)&&(((a.Msg.TopicID:Int) == b.Msg.TopicID)&&(((a.Msg.MsgID:Int) == b.Msg.MsgID)&&(((a.Msg.Code:Int) == b.Msg.Code)&&(((a.Msg.Name:List UInt8) == b.Msg.Name)&&(((a.Msg.Data:List UInt8) == b.Msg.Data)&&true))))))))))))))))) rfl ?_;refine iR h fun h=>?_;refine cP h Q89 (.cons q4 (.cons q4 .nil)) fun v21 h=>?_;cases h;exact (.p _)
def Q4o (N:Nat) (e:Qe) (l:Ua):Option Int:=
 cond (Q3 .eql e.Proto 1)
 ((Q0r N (⟨e.Proto,e.Kind,[],[],0,false,false,0,[],0,[],0,e.Packet,(⟨0,(⟨false,0,false,false,false,0⟩:Q3i),0,0,0,false,0,0,0,[],[]⟩:Qcw),(⟨0,0,[],[]⟩:Yy)⟩:Qe) e).bind fun v2=>
 cond (!v2)
 (some 2)
 (cond (Q3 .eql e.Packet.Kind 3)
 (some 2)
 ((Q1n N 4 e.Packet).bind fun v6=>
 some v6)))
 (cond (Q3 .eql e.Proto 2)
 ((Q0r N (⟨e.Proto,e.Kind,[],[],0,false,false,0,[],0,[],0,e.Packet,(⟨0,(⟨false,0,false,false,false,0⟩:Q3i),0,0,0,false,0,0,0,[],[]⟩:Qcw),(⟨0,0,[],[]⟩:Yy)⟩:Qe) e).bind fun v9=>
 cond (!v9)
 (some 2)
 (cond (Q3 .eql e.Packet.Kind 3)
 (some 2)
 ((Q1n N 5 e.Packet).bind fun v13=>
 some v13)))
 (cond (Q3 .eql e.Proto 3)
 ((Q0r N (⟨e.Proto,e.Kind,[],[],0,false,false,0,[],0,e.Hops,0,(⟨0,false,false,0,0,[],[],false,0,[],false,[],false,[],false,(⟨[],[],0,false,[]⟩:Xn),false,0,[],[],[]⟩:Q1),e.Msg,(⟨0,0,[],[]⟩:Yy)⟩:Qe) e).bind fun v16=>
 cond (!v16)
 (some 2)
 (cond (Q3 .eql e.Msg.Type' 12)
 (some 2)
 (none)))
 (cond (Q3 .eql e.Proto 4)
 ((Q0r N (⟨e.Proto,e.Kind,[],[],0,false,false,0,[],0,[],0,(⟨0,false,false,0,0,[],[],false,0,[],false,[],false,[],false,(⟨[],[],0,false,[]⟩:Xn),false,0,[],[],[]⟩:Q1),(⟨0,(⟨false,0,false,false,false,0⟩:Q3i),0,0,0,false,0,0,0,[],[]⟩:Qcw),e.Frame⟩:Qe) e).bind fun v21=>
 cond (!v21)
 (some 2)
 (none))
 (some 2))))
theorem Qh9 {N} {e} {l} {r} (h:Q4o N e l=some r):pU 59 [.agg (Qe.cells e),.agg (Ua.cells l)] (.int .i64 r):=by
 refine Q0 k59 ?_;unfold Q4o at h;rw [cX] at h;refine ifO h (fun hc1 h=>?_) (fun hc1 h=>?_)
 ·refine ifT hc1 ?_;refine cP h Q5a (.cons (Ap (f8_ (.cons (.nil _) (.cons (.p _) (.cons (.nil _) (Qo (Qo (f8_ (f4_ (f1_ (.cons (.nil _) .nil))))))))))) (.cons (Ap (Qo (Qo (Qo (f2_ (f1_ (.cons (.p _) p5))))))) .nil)) fun v2 h=>?_;refine iL h fun h=>?_;refine iL h fun h=>?_;refine ifT hc1 ?_;refine cP h Q7c (.cons (.p _) (.cons (Ap (Qo (f2_ (f1_ (.cons (.p _) p5))))) .nil)) fun v6 h=>?_;cases h;exact (.p _)
 apply iU h<;>intro h
 ·refine cP h Q5a (.cons (Ap (f8_ (.cons (.nil _) (.cons (.p _) (.cons (.nil _) (Qo (Qo (f8_ (f4_ (f1_ (.cons (.nil _) .nil))))))))))) (.cons (Ap (Qo (Qo (Qo (f2_ (f1_ (.cons (.p _) p5))))))) .nil)) fun v9 h=>?_;refine iL h fun h=>?_;refine iL h fun h=>?_;refine ifF hc1 ?_;refine cP h Q7c (.cons (.p _) (.cons (Ap (Qo (f2_ (f1_ (.cons (.p _) p5))))) .nil)) fun v13 h=>?_;cases h;exact (.p _)
 apply iU h<;>intro h
 ·refine Qk ?_;refine cP h Q5a (.cons (Ap (f8_ (.cons (.nil _) (Qo (f4_ (f2_ (.cons (.nil _) (f2_ (.cons (.nil _) (.cons (.nil _) (.cons (.nil _) (Qo (f2_ (f1_ (.cons (.nil _) .nil))))))))))))))) (.cons (Ap (Qo (Qo (Qo (f2_ (f1_ (.cons (.p _) p5))))))) .nil)) fun v16 h=>?_;refine iL h fun h=>?_;refine iL h fun h=>?_
  first | (cases h;done) | (simp [Qby] at h;done)
 refine iR h fun h=>?_;refine Qk ?_;refine cD h Q5a (.cons (Ap (f8_ (.cons (.nil _) (.cons (.p _) (.cons (.nil _) (Qo (f4_ (.cons (.nil _) (f2_ (.cons (.nil _) (.cons (.nil _) (.cons (.nil _) (f8_ (f4_ (f2_ (.cons (.p _) p5)))))))))))))))) (.cons (Ap (Qo (Qo (Qo (f2_ (f1_ (.cons (.p _) p5))))))) .nil)) fun v21 h=>?_;refine iL h fun h=>?_
 first | (cases h;done) | (simp [Qby] at h;done)
def Q50 (N:Nat) (e:Qe) (l:Ua):Option Int:=
 (Qab N l).bind fun v1=>
 cond (!v1)
 (some 2)
 (cond (Q3 .eql e.Kind 1)
 ((Q1l N e).bind fun v5=>
 cond (Q3 .neq v5 0)
 (some v5)
 (cond (Q3 .gtr (e.Payload.length:Int) l.MaxPacket)
 (some 4)
 (some 0)))
 (cond (Q3 .eql e.Kind 2)
 ((Q4o N e l).bind fun v10=>
 some v10)
 (some 2)))
theorem Qh2 {N} {e} {l} {r} (h:Q50 N e l=some r):pU 29 [.agg (Qe.cells e),.agg (Ua.cells l)] (.int .i64 r):=by
 refine Q0 k29 ?_;unfold Q50 at h;rw [cX] at h;refine cP h Qh5 (.cons q2 .nil) fun v1 h=>?_;refine iL h fun h=>?_;apply iU h<;>intro h
 ·refine cP h Qe2 (.cons (Ap (Qo (Qo (Qo (f2_ (f1_ (.cons (.p _) p5))))))) .nil) fun v5 h=>?_;refine iL h fun h=>?_;exact iB h
 refine iR h fun h=>?_;refine cP h Qh9 (.cons (Ap (Qo (Qo (Qo (f2_ (f1_ (.cons (.p _) p5))))))) (.cons q2 .nil)) fun v10 h=>?_;cases h;exact (.p _)
def Q3y (_N:Nat):Option (Ua):=
 some (⟨1048576,32⟩:Ua)
theorem Qb1 {N} {r} (h:Q3y N=some r):pU 30 [] (.agg (Ua.cells r)):=by
 refine Q0 k30 ?_;unfold Q3y at h;obtain rfl:=Qm h;exact q2
def Q2f (_N:Nat) (e:Qe):Option (Q1):=
 some e.Packet
theorem Q8j {N} {e} {r} (h:Q2f N e=some r):pU 31 [.agg (Qe.cells e)] (.agg (Q1.cells r)):=by
 refine Q0 k31 ?_;unfold Q2f at h;obtain rfl:=Qm h;exact (Ap (Qo (f2_ (f1_ (.cons (.p _) p5)))))
def X0 (N:Nat) (e:Qe):Option (Int×Q1×Int):=
 (Q2j N e.Proto).bind fun v1=>
 cond (!v1.2)
 (some (0,(⟨0,false,false,0,0,[],[],false,0,[],false,[],false,[],false,(⟨[],[],0,false,[]⟩:Xn),false,0,[],[],[]⟩:Q1),2))
 ((Q3y N).bind fun v4=>
 (Q50 N e v4).bind fun v6=>
 cond (Q3 .neq v6 0)
 (some (0,(⟨0,false,false,0,0,[],[],false,0,[],false,[],false,[],false,(⟨[],[],0,false,[]⟩:Xn),false,0,[],[],[]⟩:Q1),v6))
 (cond (Q3 .eql e.Kind 1)
 ((Q0t N e).bind fun v10=>
 (Q1i N v10).bind fun v12=>
 some (v1.1,v12,0))
 ((Q0t N e).bind fun v14=>
 (Q2f N v14).bind fun v16=>
 some (v1.1,v16,0))))
theorem Ud {N} {e} {r} (h:X0 N e=some r):pU 10 [.agg (Qe.cells e)] (.tuple [.int .i64 r.1,.agg (Q1.cells r.2.1),.int .i64 r.2.2]):=by
 refine Q0 k10 ?_;unfold X0 at h;rw [cX] at h;refine cP h Qb6 p1 fun v1 h=>?_;apply iU h<;>intro h
 ·obtain rfl:=Qm h;exact (Aq (.cons (.p _) (.cons (Ap (Qo (f2_ (f1_ (.cons (.nil _) (f2_ (.cons (.nil _) (.cons (.nil _) (.cons (.nil _) .nil))))))))) p1)))
 refine Qk ?_;refine cD h Qb1 p0 fun v4 h=>?_;refine cD h Qh2 (.cons (Ap (Qo (Qo (Qo (f2_ (f1_ (.cons (.p _) p5))))))) p1) fun v6 h=>?_;apply iU h<;>intro h
 ·obtain rfl:=Qm h;exact (Aq (.cons (.p _) (.cons (Ap (Qo (f2_ (f1_ (.cons (.nil _) (f2_ (.cons (.nil _) (.cons (.nil _) (.cons (.nil _) .nil))))))))) p1)))
 apply iU h<;>intro h
 ·refine cP h Q5f (.cons (Ap (Qo (Qo (Qo (f2_ (f1_ (.cons (.p _) p5))))))) .nil) fun v10 h=>?_;refine cP h Q7n p1 fun v12 h=>?_;obtain rfl:=Qm h;exact (Aq (.cons (.p _) (.cons (Ap (Qo (f2_ (f1_ (.cons (.p _) p5))))) p1)))
 refine cP h Q5f (.cons (Ap (Qo (Qo (Qo (f2_ (f1_ (.cons (.p _) p5))))))) .nil) fun v14 h=>?_;refine cP h Q8j p1 fun v16 h=>?_;obtain rfl:=Qm h;exact (Aq (.cons (.p _) (.cons (Ap (Qo (f2_ (f1_ (.cons (.p _) p5))))) p1)))
def Q2z (_N:Nat) (l:Ua):Option Bool:=
 cond (Q3 .geq l.MaxPacket 16)
 (cond (Q3 .leq l.MaxPacket 1048576)
 (cond (Q3 .geq l.MaxDepth 0)
 (some (Q3 .leq l.MaxDepth 32))
 (some false))
 (some false))
 (some false)
theorem Q93 {N} {l} {r} (h:Q2z N l=some r):pU 36 [.agg (Ua.cells l)] (.bool r):=by
 refine Q0 k36 ?_;unfold Q2z at h;rw [cX] at h;refine iR h fun h=>?_;refine iR h fun h=>?_;exact iB h
def Zf (_N:Nat):Option (Ua):=
 some (⟨1048576,32⟩:Ua)
theorem Xi {N} {r} (h:Zf N=some r):pU 13 [] (.agg (Ua.cells r)):=by
 refine Q0 k13 ?_;unfold Zf at h;obtain rfl:=Qm h;exact q2
def Q11 (_N:Nat) (e:Qe):Option Bool:=
 cond (Q3 .neq e.Proto 3)
 (cond (Q3 .eql e.Type' 0)
 (some (Q3 .eql ((Q6 Q3f.cells e.Hops).length:Int) 0))
 (some false))
 (none)
theorem Qbx {N} {e} {r} (h:Q11 N e=some r):pU 61 [.agg (Qe.cells e)] (.bool r):=by
 refine Q0 k61 ?_;unfold Q11 at h;rw [cX] at h;apply iU h<;>intro h
 ·exact iB h
 first | (cases h;done) | (simp [Qby] at h;done)
def Xv (rz:Q2→Q2→Option Bool) (N:Nat) (a:Q2) (b:Q2):Nat→Int→Option Bool
 | 0,_=>none
 | n+1,i22=>
  cond (Q3 .lss i22 ((Q2.rows a.Items).length:Int))
  ((idx a.Items i22).bind fun y24=>
  (idx b.Items i22).bind fun y26=>
  (rz y24 y26).bind fun v28=>
  cond (!v28)
  (some false)
  (Xv rz N a b n (wrap .i64 (i22+1))))
  (some true)
def Q1a (rz:Q2→Q2→Option Bool) (N:Nat) (a:Q2) (b:Q2):Option Bool:=
 cond (Q3 .neq a.Kind b.Kind)
 (some false)
 (cond (Q3 .neq a.N' b.N')
 (some false)
 (cond (Q0p .neq a.Text b.Text)
 (some false)
 (cond (Q3 .neq ((Q2.rows a.Items).length:Int) ((Q2.rows b.Items).length:Int))
 (some false)
 (Xv rz N a b N 0))))
theorem Qal {rz:Q2→Q2→Option Bool} (hy1:∀ {a} {b} {r},rz a b=some r→pU 74 [.agg (Q2.cells a),.agg (Q2.cells b)] (.bool r)) {N} {a} {b} {r} (h:Q1a rz N a b=some r):pU 74 [.agg (Q2.cells a),.agg (Q2.cells b)] (.bool r):=by
 refine Q0 k74 ?_;unfold Q1a at h;rw [cX,cY] at h;refine iL h fun h=>?_;refine iL h fun h=>?_;refine iL h fun h=>?_;refine iL h fun h=>?_;refine lpH (τ:=Int) (fun i22=>(.any :: .any :: .ptr 0 0 :: .ptr 1 0 :: .any::iI i22::a16 (a16 (a8 (a4 (a2 (.any :: []))))):List AV)) (fun n0 i22=>Xv rz N a b n0 i22) (0) h fun n0 i22 h=>?_
 first | rw [Xv] at h | simp only [Xv] at h
 rw [cX] at h;refine iR h fun h=>?_;refine Qk ?_;refine Q2.xR h fun y24 h=>?_;refine Q2.xR h fun y26 h=>?_;refine cD h hy1 (.cons q4 (.cons q4 .nil)) fun v28 h=>?_;refine iL h fun h=>?_;show Exists _;exact ⟨(n0,(wrap .i64 (i22+1))),h,Lf _,(fun i=>i),Yn⟩
def V7:Nat→Q2→Q2→Option Bool
 | 0=>fun _ _=>none
 | N+1=>Q1a (V7 N) N
theorem Q9u {N} {a} {b} {r} (h:V7 N a b=some r):pU 74 [.agg (Q2.cells a),.agg (Q2.cells b)] (.bool r):=by
 induction N generalizing a b r with
 | zero=>simp [V7] at h
 | succ N ih=>exact Qal (fun h=>ih h) h
def Yc (N:Nat) (a:Yy) (b:Yy):Nat→Int→Option Bool
 | 0,_=>none
 | n+1,i22=>
  cond (Q3 .lss i22 ((Q2.rows a.Values).length:Int))
  ((idx a.Values i22).bind fun y24=>
  (idx b.Values i22).bind fun y26=>
  (V7 N y24 y26).bind fun v28=>
  cond (!v28)
  (some false)
  (Yc N a b n (wrap .i64 (i22+1))))
  (some true)
def Uk (N:Nat) (a:Yy) (b:Yy):Option Bool:=
 cond (Q3 .neq a.Type' b.Type')
 (some false)
 (cond (Q3 .neq a.Channel b.Channel)
 (some false)
 (cond (Q0p .neq a.Ext b.Ext)
 (some false)
 (cond (Q3 .neq ((Q2.rows a.Values).length:Int) ((Q2.rows b.Values).length:Int))
 (some false)
 (Yc N a b N 0))))
theorem Q4n {N} {a} {b} {r} (h:Uk N a b=some r):pU 44 [.agg (Yy.cells a),.agg (Yy.cells b)] (.bool r):=by
 refine Q0 k44 ?_;unfold Uk at h;rw [cX,cY] at h;refine iL h fun h=>?_;refine iL h fun h=>?_;refine iL h fun h=>?_;refine iL h fun h=>?_;refine lpH (τ:=Int) (fun i22=>(.any :: .any :: .ptr 0 0 :: .ptr 1 0 :: .any::iI i22::a16 (a16 (a8 (a4 (a2 (.any :: []))))):List AV)) (fun n0 i22=>Yc N a b n0 i22) (0) h fun n0 i22 h=>?_
 first | rw [Yc] at h | simp only [Yc] at h
 rw [cX] at h;refine iR h fun h=>?_;refine Qk ?_;refine Q2.xR h fun y24 h=>?_;refine Q2.xR h fun y26 h=>?_;refine cD h Q9u (.cons q4 (.cons q4 .nil)) fun v28 h=>?_;refine iL h fun h=>?_;show Exists _;exact ⟨(n0,(wrap .i64 (i22+1))),h,Lf _,(fun i=>i),Yn⟩
def Yt (N:Nat) (e:Qe):Option Bool:=
 (Qi N e.Packet (⟨0,false,false,0,0,[],[],false,0,[],false,[],false,[],false,(⟨[],[],0,false,[]⟩:Xn),false,0,[],[],[]⟩:Q1)).bind fun v1=>
 cond v1
 (cond (((e.Msg.Type':Int) == 0)&&(((e.Msg.Flags.Dup:Bool) == false)&&(((e.Msg.Flags.QoS:Int) == 0)&&(((e.Msg.Flags.Retain:Bool) == false)&&(((e.Msg.Flags.Will:Bool) == false)&&(((e.Msg.Flags.Clean:Bool) == false)&&(((e.Msg.Flags.Type':Int) == 0)&&(((e.Msg.Gateway:Int) == 0)&&(((e.Msg.Radius:Int) == 0)&&(((e.Msg.Time:Int) == 0)&&(((e.Msg.Timed:Bool) == false)&&(((e.Msg.TopicID:Int) == 0)&&(((e.Msg.MsgID:Int) == 0)&&(((e.Msg.Code:Int) == 0)&&(((e.Msg.Name:List UInt8) == [])&&(((e.Msg.Data:List UInt8) == [])&&true))))))))))))))))
 ((Uk N e.Frame (⟨0,0,[],[]⟩:Yy)).bind fun v5=>
 some v5)
 (some false))
 (some false)
theorem U9 {N} {e} {r} (h:Yt N e=some r):pU 62 [.agg (Qe.cells e)] (.bool r):=by
 refine Q0 k62 ?_;unfold Yt at h;refine cP h Qs (.cons (Ap (Qo (f2_ (f1_ (.cons (.p _) p5))))) (.cons (Ap (Qo (f2_ (f1_ (.cons (.nil _) (f2_ (.cons (.nil _) (.cons (.nil _) (.cons (.nil _) .nil))))))))) .nil)) fun v1 h=>?_;refine iR h fun h=>?_;refine Qn9 (ks := [0,2,0,2,2,2,0,0,0,0,2,0,0,0,1,1]) (xs := [iI e.Msg.Type',.p (.bool e.Msg.Flags.Dup),iI e.Msg.Flags.QoS,.p (.bool e.Msg.Flags.Retain),.p (.bool e.Msg.Flags.Will),.p (.bool e.Msg.Flags.Clean),iI e.Msg.Flags.Type',iI e.Msg.Gateway,iI e.Msg.Radius,iI e.Msg.Time,.p (.bool e.Msg.Timed),iI e.Msg.TopicID,iI e.Msg.MsgID,iI e.Msg.Code,iS e.Msg.Name,iS e.Msg.Data]) (ys := [iI 0,.p (.bool false),iI 0,.p (.bool false),.p (.bool false),.p (.bool false),iI 0,iI 0,iI 0,iI 0,.p (.bool false),iI 0,iI 0,iI 0,iS [],iS []]) (b:=(((e.Msg.Type':Int) == 0)&&(((e.Msg.Flags.Dup:Bool) == false)&&(((e.Msg.Flags.QoS:Int) == 0)&&(((e.Msg.Flags.Retain:Bool) == false)&&(((e.Msg.Flags.Will:Bool) == false)&&(((e.Msg.Flags.Clean:Bool) == false)&&(((e.Msg.Flags.Type':Int) == 0)&&(((e.Msg.Gateway:Int) == 0)&&(((e.Msg.Radius:Int) == 0)&&(((e.Msg.Time:Int) == 0)&&(((e.Msg.Timed:Bool) == false)&&(((e.Msg.TopicID:Int) == 0)&&(((e.Msg.MsgID:Int) == 0)&&(((e.Msg.Code:Int) == 0)&&(((e.Msg.Name:List UInt8) == [])&&(((e.Msg.Data:List UInt8) == [])&&true))))))))))))))))) rfl ?_;refine iR h fun h=>?_;refine cP h Q4n (.cons q4 (.cons q4n .nil)) fun v5 h=>?_;cases h;exact (.p _)
def Za (N:Nat) (e:Qe) (s66:Bool):Option Int:=
 cond s66
 (some 2)
 ((X2 N 3 e.Props).bind fun v76=>
 cond (Q3 .neq v76 0)
 (some 9)
 (some 0))
def Qw (N:Nat) (e:Qe) (s44:Bool):Option Int:=
 cond s44
 (some 2)
 (cond (Q3 .lss e.Channel 0)
 (Za N e true)
 (cond (Q3 .gtr e.Channel 65535)
 (Za N e true)
 (cond (Q3 .neq e.Channel 0)
 (cond (Q3 .neq e.Proto 4)
 (Za N e true)
 ((Yt N e).bind fun v71=>
 Za N e (!v71)))
 ((Yt N e).bind fun v73=>
 Za N e (!v73)))))
def Xr (N:Nat) (k4:Bool→Option Int) (e:Qe) (s52:Bool):Option Int:=
 cond s52
 (k4 s52)
 ((Q11 N e).bind fun v55=>
 k4 (!v55))
def Yw (N:Nat) (k4:Bool→Option Int) (e:Qe) (s47:Bool):Option Int:=
 cond s47
 (k4 s47)
 (cond (Q3 .gtr ((Q6 Qb.cells e.Props).length:Int) 0)
 (Xr N k4 e (Q3 .neq e.Proto 2))
 (Xr N k4 e false))
def Zb (N:Nat) (e:Qe) (acked20:Bool) (s26:Bool):Option Int:=
 cond s26
 (some 2)
 (cond e.Dup
 (cond (!acked20)
 (Yw N (Qw N e) e (Q3 .neq e.Proto 3))
 (Yw N (Qw N e) e false))
 (Yw N (Qw N e) e false))
def Xs (N:Nat) (e:Qe) (least17:Int) (acked20:Bool):Option Int:=
 cond (Q3 .lss e.QoS least17)
 (Zb N e acked20 true)
 (cond (Q3 .gtr e.QoS 2)
 (Zb N e acked20 true)
 (cond (Q3 .lss e.ID 0)
 (Zb N e acked20 true)
 (cond (Q3 .gtr e.ID 65535)
 (Zb N e acked20 true)
 (Zb N e acked20 (!((Q3 .neq e.ID 0) == acked20))))))
def V2 (N:Nat) (e:Qe) (least17:Int):Option Int:=
 cond (Q3 .eql e.QoS 1)
 (Xs N e least17 true)
 (Xs N e least17 (Q3 .eql e.QoS 2))
def Yx (N:Nat) (e:Qe) (s9:Bool):Option Int:=
 cond s9
 (some 2)
 ((Qr N e.Topic).bind fun v13=>
 cond (!v13)
 (some 10)
 (cond (Q3 .eql e.Proto 3)
 (V2 N e (-1))
 (V2 N e 0)))
def U6 (N:Nat) (e:Qe):Option Int:=
 cond (Q3 .lss e.Proto 1)
 (Yx N e true)
 (cond (Q3 .gtr e.Proto 4)
 (Yx N e true)
 (Yx N e (Q3 .neq e.Kind 1)))
theorem Q7w {N} {e} {r} (h:U6 N e=some r):pU 37 [.agg (Qe.cells e)] (.int .i64 r):=by
 refine Q0 k37 ?_;unfold U6 at h;rw [cX] at h;refine Y2 ?_;refine Vq (σ:=Bool) (fun s9=>(.any :: .ptr 0 0::a8 (a4 (a2 (.any :: .p (.bool s9)::a16 (a16 (a16 (a16 (a16 (a8 (a4 (a2 (.any :: []))))))))))):List AV)) (fun _=>(.cells (Q5z e ([])) :: []:List AObj)) (fun s9=>Yx N e s9=some r) (fun _ _=>Lj _) ?_ ?_
 ·apply iU h<;>intro h
  ·show Exists _;exact ⟨(true),h,(fun i=>i),Yn⟩
  apply iU h<;>intro h
  ·show Exists _;exact ⟨(true),h,(fun i=>i),Yn⟩
  show Exists _;exact ⟨((Qlv .neq e.Kind 1)),h,(fun i=>i),Yn⟩
 rintro s9 h
 unfold Yx at h;rw [cX] at h;refine iL h fun h=>?_;refine cP h Zm p1 fun v13 h=>?_;refine iL h fun h=>?_;refine Vq (σ:=Int) (fun least17=>(.any :: .ptr 0 0 :: .any::iI least17::a16 (a16 (a16 (a16 (a16 (a16 (a8 (a4 (.any :: [])))))))):List AV)) (fun _=>(.cells (Q5z e ([])) :: []:List AObj)) (fun least17=>V2 N e least17=some r) (fun _ _=>Lj _) ?_ ?_
 ·apply iU h<;>intro h
  ·show Exists _;exact ⟨((-1)),h,(fun i=>i),Yn⟩
  show Exists _;exact ⟨(0),h,(fun i=>i),Yn⟩
 rintro least17 h
 unfold V2 at h;rw [cX] at h;refine Vq (σ:=Bool) (fun acked20=>(.any :: .ptr 0 0 :: .any::iI least17 :: .p (.bool acked20)::a16 (a16 (a16 (a16 (a16 (a16 (a8 (a4 ([])))))))):List AV)) (fun _=>(.cells (Q5z e ([])) :: []:List AObj)) (fun acked20=>Xs N e least17 acked20=some r) (fun _ _=>Lj _) ?_ ?_
 ·apply iU h<;>intro h
  ·show Exists _;exact ⟨(true),h,(fun i=>i),Yn⟩
  show Exists _;exact ⟨((Qlv .eql e.QoS 2)),h,(fun i=>i),Yn⟩
 rintro acked20 h
 unfold Xs at h;rw [cX] at h;refine Vq (σ:=Bool) (fun s26=>(.any :: .ptr 0 0 :: .any :: .any :: .p (.bool acked20)::a16 (a8 (a4 (.p (.bool s26)::a16 (a16 (a16 (a16 (a8 (a4 (a2 (.any :: [])))))))))):List AV)) (fun _=>(.cells (Q5z e ([])) :: []:List AObj)) (fun s26=>Zb N e acked20 s26=some r) (fun _ _=>Lj _) ?_ ?_
 ·apply iU h<;>intro h
  ·show Exists _;exact ⟨(true),h,(fun i=>i),Yn⟩
  apply iU h<;>intro h
  ·show Exists _;exact ⟨(true),h,(fun i=>i),Yn⟩
  apply iU h<;>intro h
  ·show Exists _;exact ⟨(true),h,(fun i=>i),Yn⟩
  apply iU h<;>intro h
  ·show Exists _;exact ⟨(true),h,(fun i=>i),Yn⟩
  show Exists _;exact ⟨((!((Qlv .neq e.ID 0) == acked20))),h,(fun i=>i),Yn⟩
 rintro s26 h
 unfold Zb at h;rw [cX] at h;refine iL h fun h=>?_;refine Vq (σ:=Bool) (fun s44=>(.any :: .ptr 0 0::a16 (a16 (a16 (a8 (a2 (.p (.bool s44)::a16 (a16 (a16 (a4 ([]))))))))):List AV)) (fun _=>(.cells (Q5z e ([])) :: []:List AObj)) (fun s44=>Qw N e s44=some r) (fun _ _=>Lj _) ?_ ?_
 ·refine Vq (σ:=Bool) (fun s47=>(.any :: .ptr 0 0::a16 (a16 (a16 (a8 (a2 (.p (.bool s47)::a16 (a16 (a16 (a4 ([]))))))))):List AV)) (fun _=>(.cells (Q5z e ([])) :: []:List AObj)) (fun s47=>Yw N (Qw N e) e s47=some r) (fun _ _=>Lj _) ?_ ?_
  ·apply iU h<;>intro h
   ·apply iU h<;>intro h
    ·show Exists _;exact ⟨((Qlv .neq e.Proto 3)),h,(fun i=>i),Yn⟩
    show Exists _;exact ⟨(false),h,(fun i=>i),Yn⟩
   show Exists _;exact ⟨(false),h,(fun i=>i),Yn⟩
  rintro s47 h
  unfold Yw at h;rw [cX] at h;apply iU h<;>intro h
  ·show Exists _;exact ⟨(s47),h,(fun i=>i),Yn⟩
  refine Vq (σ:=Bool) (fun s52=>(.any :: .ptr 0 0::a16 (a16 (a16 (a8 (a2 (.p (.bool s52)::a16 (a16 (a16 (a4 ([]))))))))):List AV)) (fun _=>(.cells (Q5z e ([])) :: []:List AObj)) (fun s52=>Xr N (Qw N e) e s52=some r) (fun _ _=>Lj _) ?_ ?_
  ·apply iU h<;>intro h
   ·show Exists _;exact ⟨((Qlv .neq e.Proto 2)),h,(fun i=>i),Yn⟩
   show Exists _;exact ⟨(false),h,(fun i=>i),Yn⟩
  rintro s52 h
  unfold Xr at h;apply iU h<;>intro h
  ·show Exists _;exact ⟨(s52),h,(fun i=>i),Yn⟩
  refine cP h Qbx (.cons (Ap (Qo (Qo (Qo (f2_ (f1_ (.cons (.p _) p5))))))) .nil) fun v55 h=>?_;show Exists _;exact ⟨((!v55)),h,(fun i=>i),Yn⟩
 rintro s44 h
 unfold Qw at h;rw [cX] at h;refine iL h fun h=>?_;refine Vq (σ:=Bool) (fun s66=>(.any :: .ptr 0 0::a16 (a16 (a16 (a16 (a16 (a2 (.p (.bool s66)::a16 (a8 (a4 ([]))))))))):List AV)) (fun _=>(.cells (Q5z e ([])) :: []:List AObj)) (fun s66=>Za N e s66=some r) (fun _ _=>Lj _) ?_ ?_
 ·apply iU h<;>intro h
  ·show Exists _;exact ⟨(true),h,(fun i=>i),Yn⟩
  apply iU h<;>intro h
  ·show Exists _;exact ⟨(true),h,(fun i=>i),Yn⟩
  apply iU h<;>intro h
  ·apply iU h<;>intro h
   ·show Exists _;exact ⟨(true),h,(fun i=>i),Yn⟩
   refine cP h U9 (.cons (Ap (Qo (Qo (Qo (f2_ (f1_ (.cons (.p _) p5))))))) .nil) fun v71 h=>?_;show Exists _;exact ⟨((!v71)),h,(fun i=>i),Yn⟩
  refine cP h U9 (.cons (Ap (Qo (Qo (Qo (f2_ (f1_ (.cons (.p _) p5))))))) .nil) fun v73 h=>?_;show Exists _;exact ⟨((!v73)),h,(fun i=>i),Yn⟩
 rintro s66 h
 unfold Za at h;rw [cX] at h;refine iL h fun h=>?_;refine cP h Jy p2 fun v76 h=>?_;exact iB h
def Q1w (_N:Nat) (proto:Int):Option Int:=
 cond (Q3 .eql proto 1)
 (some 4)
 (cond (Q3 .eql proto 2)
 (some 5)
 (some 0))
theorem Q7q {N} {proto} {r} (h:Q1w N proto=some r):pU 64 [.int .i64 proto] (.int .i64 r):=by
 refine Q0 k64 ?_;unfold Q1w at h;rw [cX] at h;refine iL h fun h=>?_;exact iB h
def Wu (N:Nat) (a:List Q3f) (b:List Q3f):Nat→Int→Option Bool
 | 0,_=>none
 | n+1,i17=>
  cond (Q3 .lss i17 ((Q6 Q3f.cells a).length:Int))
  ((idx a i17).bind fun y19=>
  (idx b i17).bind fun y21=>
  cond (!(((y19.Radius:Int) == y21.Radius)&&(((y19.Node:List UInt8) == y21.Node)&&true)))
  (some false)
  (Wu N a b n (wrap .i64 (i17+1))))
  (some true)
def Gi (N:Nat) (a:List Q3f) (b:List Q3f):Option Bool:=
 cond (Q3 .neq ((Q6 Q3f.cells a).length:Int) ((Q6 Q3f.cells b).length:Int))
 (some false)
 (Wu N a b N 0)
theorem Qah {N} {a} {b} {r} (h:Gi N a b=some r):pU 43 [.slice 2 (Q6 Q3f.cells a),.slice 2 (Q6 Q3f.cells b)] (.bool r):=by
 refine Q0 k43 ?_;unfold Gi at h;rw [cX] at h;refine iL h fun h=>?_;refine lpH (τ:=Int) (fun i17=>(.p (.slice 2 (Q6 Q3f.cells a)) :: .p (.slice 2 (Q6 Q3f.cells b))::a2 (.any::iI i17::a16 (a4 ([]))):List AV)) (fun n0 i17=>Wu N a b n0 i17) (0) h fun n0 i17 h=>?_
 first | rw [Wu] at h | simp only [Wu] at h
 rw [cX] at h;refine iR h fun h=>?_;refine Qk ?_;refine xR h fun y19 h=>?_;refine xR h fun y21 h=>?_;refine iL h fun h=>?_;show Exists _;exact ⟨(n0,(wrap .i64 (i17+1))),h,Lf _,(fun i=>i),Yn⟩
def Y9 (N:Nat) (a:Qe) (b:Qe):Option Bool:=
 cond (Q3 .eql a.Proto b.Proto)
 (cond (Q3 .eql a.Kind b.Kind)
 (cond (Q0p .eql a.Topic b.Topic)
 (cond (Q0p .eql a.Payload b.Payload)
 (cond (Q3 .eql a.QoS b.QoS)
 (cond (a.Retain == b.Retain)
 (cond (a.Dup == b.Dup)
 (cond (Q3 .eql a.ID b.ID)
 ((V9 N a.Props b.Props).bind fun v9=>
 cond v9
 (cond (Q3 .eql a.Type' b.Type')
 ((Gi N a.Hops b.Hops).bind fun v13=>
 cond v13
 (cond (Q3 .eql a.Channel b.Channel)
 ((Qi N a.Packet b.Packet).bind fun v17=>
 cond v17
 (cond (((a.Msg.Type':Int) == b.Msg.Type')&&(((a.Msg.Flags.Dup:Bool) == b.Msg.Flags.Dup)&&(((a.Msg.Flags.QoS:Int) == b.Msg.Flags.QoS)&&(((a.Msg.Flags.Retain:Bool) == b.Msg.Flags.Retain)&&(((a.Msg.Flags.Will:Bool) == b.Msg.Flags.Will)&&(((a.Msg.Flags.Clean:Bool) == b.Msg.Flags.Clean)&&(((a.Msg.Flags.Type':Int) == b.Msg.Flags.Type')&&(((a.Msg.Gateway:Int) == b.Msg.Gateway)&&(((a.Msg.Radius:Int) == b.Msg.Radius)&&(((a.Msg.Time:Int) == b.Msg.Time)&&(((a.Msg.Timed:Bool) == b.Msg.Timed)&&(((a.Msg.TopicID:Int) == b.Msg.TopicID)&&(((a.Msg.MsgID:Int) == b.Msg.MsgID)&&(((a.Msg.Code:Int) == b.Msg.Code)&&(((a.Msg.Name:List UInt8) == b.Msg.Name)&&(((a.Msg.Data:List UInt8) == b.Msg.Data)&&true))))))))))))))))
 ((Uk N a.Frame b.Frame).bind fun v21=>
 some v21)
 (some false))
 (some false))
 (some false))
 (some false))
 (some false))
 (some false))
 (some false))
 (some false))
 (some false))
 (some false))
 (some false))
 (some false))
 (some false))
 (some false)
theorem Uh {N} {a} {b} {r} (h:Y9 N a b=some r):pU 16 [.agg (Qe.cells a),.agg (Qe.cells b)] (.bool r):=by
 refine Q0 k16 ?_;unfold Y9 at h;rw [cX,cY] at h;refine iR h fun h=>?_;refine iR h fun h=>?_;refine iR h fun h=>?_;refine iR h fun h=>?_;refine iR h fun h=>?_;refine iR h fun h=>?_;refine iR h fun h=>?_;refine iR h fun h=>?_;refine cP h Q1y p2 fun v9 h=>?_;refine iR h fun h=>?_;refine iR h fun h=>?_;refine cP h Qah p2 fun v13 h=>?_;refine iR h fun h=>?_;refine iR h fun h=>?_;refine cP h Qs (.cons (Ap (Qo (f2_ (f1_ (.cons (.p _) p5))))) (.cons (Ap (Qo (f2_ (f1_ (.cons (.p _) p5))))) .nil)) fun v17 h=>?_;refine iR h fun h=>?_;refine Qn9 (ks := [0,2,0,2,2,2,0,0,0,0,2,0,0,0,1,1]) (xs := [iI a.Msg.Type',.p (.bool a.Msg.Flags.Dup),iI a.Msg.Flags.QoS,.p (.bool a.Msg.Flags.Retain),.p (.bool a.Msg.Flags.Will),.p (.bool a.Msg.Flags.Clean),iI a.Msg.Flags.Type',iI a.Msg.Gateway,iI a.Msg.Radius,iI a.Msg.Time,.p (.bool a.Msg.Timed),iI a.Msg.TopicID,iI a.Msg.MsgID,iI a.Msg.Code,iS a.Msg.Name,iS a.Msg.Data]) (ys := [iI b.Msg.Type',.p (.bool b.Msg.Flags.Dup),iI b.Msg.Flags.QoS,.p (.bool b.Msg.Flags.Retain),.p (.bool b.Msg.Flags.Will),.p (.bool b.Msg.Flags.Clean),iI b.Msg.Flags.Type',iI b.Msg.Gateway,iI b.Msg.Radius,iI b.Msg.Time,.p (.bool b.Msg.Timed),iI b.Msg.TopicID,iI b.Msg.MsgID,iI b.Msg.Code,iS b.Msg.Name,iS b.Msg.Data]) (b:=(((a.Msg.Type':Int) == b.Msg.Type')&&(((a.Msg.Flags.Dup:Bool) == b.Msg.Flags.Dup)&&(((a.Msg.Flags.QoS:Int) == b.Msg.Flags.QoS)&&(((a.Msg.Flags.Retain:Bool) == b.Msg.Flags.Retain)&&(((a.Msg.Flags.Will:Bool) == b.Msg.Flags.Will)&&(((a.Msg.Flags.Clean:Bool) == b.Msg.Flags.Clean)&&(((a.Msg.Flags.Type':Int) == b.Msg.Flags.Type')&&(((a.Msg.Gateway:Int) == b.Msg.Gateway)&&(((a.Msg.Radius:Int) == b.Msg.Radius)&&(((a.Msg.Time:Int) == b.Msg.Time)&&(((a.Msg.Timed:Bool) == b.Msg.Timed)&&(((a.Msg.TopicID:Int) == b.Msg.TopicID)&&(((a.Msg.MsgID:Int) == b.Msg.MsgID)&&(((a.Msg.Code:Int) == b.Msg.Code)&&(((a.Msg.Name:List UInt8) == b.Msg.Name)&&(((a.Msg.Data:List UInt8) == b.Msg.Data)&&true))))))))))))))))) rfl ?_;refine iR h fun h=>?_;refine cP h Q4n (.cons q4 (.cons q4 .nil)) fun v21 h=>?_;cases h;exact (.p _)
def Jp (N:Nat) (e:Qe) (l:Ua):Option Int:=
 (Y9 N (⟨e.Proto,e.Kind,e.Topic,e.Payload,e.QoS,e.Retain,e.Dup,e.ID,e.Props,e.Type',[],e.Channel,(⟨0,false,false,0,0,[],[],false,0,[],false,[],false,[],false,(⟨[],[],0,false,[]⟩:Xn),false,0,[],[],[]⟩:Q1),(⟨0,(⟨false,0,false,false,false,0⟩:Q3i),0,0,0,false,0,0,0,[],[]⟩:Qcw),(⟨0,0,[],[]⟩:Yy)⟩:Qe) (⟨e.Proto,2,[],[],0,false,false,0,[],0,[],0,(⟨0,false,false,0,0,[],[],false,0,[],false,[],false,[],false,(⟨[],[],0,false,[]⟩:Xn),false,0,[],[],[]⟩:Q1),(⟨0,(⟨false,0,false,false,false,0⟩:Q3i),0,0,0,false,0,0,0,[],[]⟩:Qcw),(⟨0,0,[],[]⟩:Yy)⟩:Qe)).bind fun v1=>
 cond (!v1)
 (some 2)
 ((Q1w N e.Proto).bind fun v4=>
 cond (Q3 .neq v4 0)
 ((Yt N (⟨e.Proto,e.Kind,e.Topic,e.Payload,e.QoS,e.Retain,e.Dup,e.ID,e.Props,e.Type',e.Hops,e.Channel,(⟨0,false,false,0,0,[],[],false,0,[],false,[],false,[],false,(⟨[],[],0,false,[]⟩:Xn),false,0,[],[],[]⟩:Q1),e.Msg,e.Frame⟩:Qe)).bind fun v7=>
 cond (!v7)
 (some 2)
 (cond (Q3 .gtr ((Q6 Q3f.cells e.Hops).length:Int) 0)
 (some 2)
 (cond (Q3 .eql e.Packet.Kind 3)
 (some 2)
 ((Vu N v4 e.Packet).bind fun v12=>
 some v12))))
 (cond (Q3 .eql e.Proto 3)
 ((Yt N (⟨e.Proto,e.Kind,e.Topic,e.Payload,e.QoS,e.Retain,e.Dup,e.ID,e.Props,e.Type',e.Hops,e.Channel,e.Packet,(⟨0,(⟨false,0,false,false,false,0⟩:Q3i),0,0,0,false,0,0,0,[],[]⟩:Qcw),e.Frame⟩:Qe)).bind fun v15=>
 cond (!v15)
 (some 2)
 (cond (Q3 .eql e.Msg.Type' 12)
 (some 2)
 (none)))
 (cond (Q3 .eql e.Proto 4)
 ((Yt N (⟨e.Proto,e.Kind,e.Topic,e.Payload,e.QoS,e.Retain,e.Dup,e.ID,e.Props,e.Type',e.Hops,e.Channel,e.Packet,e.Msg,(⟨0,0,[],[]⟩:Yy)⟩:Qe)).bind fun v20=>
 cond (!v20)
 (some 2)
 (cond (Q3 .gtr ((Q6 Q3f.cells e.Hops).length:Int) 0)
 (some 2)
 (none)))
 (some 2))))
theorem Q8y {N} {e} {l} {r} (h:Jp N e l=some r):pU 38 [.agg (Qe.cells e),.agg (Ua.cells l)] (.int .i64 r):=by
 refine Q0 k38 ?_;unfold Jp at h;rw [cX] at h;refine cP h Uh (.cons (Ap (f8_ (f2_ (.cons (.nil _) (Qo (f4_ (.cons (.nil _) (f2_ (.cons (.nil _) (.cons (.nil _) (.cons (.nil _) (Qo (f2_ (f1_ (.cons (.nil _) .nil))))))))))))))) (.cons (Ap (f8_ (.cons (.nil _) (.cons (.p _) (.cons (.nil _) (Qo (f4_ (.cons (.nil _) (f2_ (.cons (.nil _) (.cons (.nil _) (.cons (.nil _) (Qo (f2_ (f1_ (.cons (.nil _) .nil)))))))))))))))) .nil)) fun v1 h=>?_;refine iL h fun h=>?_;refine cP h Q7q p1 fun v4 h=>?_;apply iU h<;>intro h
 ·refine cP h U9 (.cons (Ap (Qo (f8_ (f4_ (f2_ (f1_ (.cons (.nil _) (f2_ (.cons (.nil _) (.cons (.nil _) (.cons (.nil _) (f8_ (f4_ (f2_ (.cons (.p _) p5))))))))))))))) .nil) fun v7 h=>?_;refine iL h fun h=>?_;refine iL h fun h=>?_;refine iL h fun h=>?_;refine cP h Q41 (.cons (.p _) (.cons (Ap (Qo (f2_ (f1_ (.cons (.p _) p5))))) .nil)) fun v12 h=>?_;cases h;exact (.p _)
 apply iU h<;>intro h
 ·refine cP h U9 (.cons (Ap (Qo (Qo (Qo (f2_ (f1_ (.cons (.p _) p5))))))) .nil) fun v15 h=>?_;refine iL h fun h=>?_;refine iL h fun h=>?_
  first | (cases h;done) | (simp [Qby] at h;done)
 refine iR h fun h=>?_;refine Qk ?_;refine cD h U9 (.cons (Ap (Qo (Qo (Qo (f8_ (.cons (.nil _) .nil)))))) .nil) fun v20 h=>?_;refine iL h fun h=>?_;refine iL h fun h=>?_
 first | (cases h;done) | (simp [Qby] at h;done)
def Wq (N:Nat) (e:Qe) (l:Ua):Option Int:=
 (Q2z N l).bind fun v1=>
 cond (!v1)
 (some 2)
 (cond (Q3 .eql e.Kind 1)
 ((U6 N e).bind fun v5=>
 cond (Q3 .eql v5 0)
 (cond (Q3 .gtr (e.Payload.length:Int) l.MaxPacket)
 (some 4)
 (some v5))
 (some v5))
 (cond (Q3 .eql e.Kind 2)
 ((Jp N e l).bind fun v10=>
 some v10)
 (some 2)))
theorem Q4c {N} {e} {l} {r} (h:Wq N e l=some r):pU 12 [.agg (Qe.cells e),.agg (Ua.cells l)] (.int .i64 r):=by
 refine Q0 k12 ?_;unfold Wq at h;rw [cX] at h;refine cP h Q93 (.cons q2 .nil) fun v1 h=>?_;refine iL h fun h=>?_;apply iU h<;>intro h
 ·refine cP h Q7w (.cons (Ap (Qo (Qo (Qo (f2_ (f1_ (.cons (.p _) p5))))))) .nil) fun v5 h=>?_;refine iR h fun h=>?_;exact iB h
 refine iR h fun h=>?_;refine cP h Q8y (.cons (Ap (Qo (Qo (Qo (f2_ (f1_ (.cons (.p _) p5))))))) (.cons q2 .nil)) fun v10 h=>?_;cases h;exact (.p _)
def G4 (N:Nat):Nat→Int→Int→Option Int
 | 0,_,_=>none
 | n+1,n8,size9=>
  cond (Q3 .geq n8 128)
  (G4 N n (wrap .i64 ((n8:Int).tdiv 128)) (wrap .i64 (size9+1)))
  (some size9)
def Q4s (N:Nat) (n_0:Int):Option Int:=
 (Q4g N n_0).bind fun v1=>
 cond (!v1)
 (some 0)
 (G4 N N n_0 1)
theorem Qhc {N} {n_0} {r} (h:Q4s N n_0=some r):pU 216 [.int .i64 n_0] (.int .i64 r):=by
 refine Q0 Zl8 ?_;unfold Q4s at h;refine cP h Qba p1 fun v1 h=>?_;refine iL h fun h=>?_;refine lpH (τ:=Int×Int) (fun ⟨n8,size9⟩=>(iI n8 :: .any :: .any::iI size9::a8 (a2 ([])):List AV)) (fun n0 ⟨n8,size9⟩=>G4 N n0 n8 size9) (n_0,1) h fun n0 ⟨n8,size9⟩ h=>?_
 first | rw [G4] at h | simp only [G4] at h
 rw [cX] at h;refine iR h fun h=>?_;show Exists _;exact ⟨(n0,(wrap .i64 ((n8:Int).tdiv 128)),(wrap .i64 (size9+1))),h,Lf _,(fun i=>i),Yn⟩
def Gt (N:Nat) (kind:Int) (flags:Int):Option Bool:=
 cond (Q3 .neq kind 3)
 ((Q4i N kind).bind fun v2=>
 some (Q3 .eql flags v2))
 (cond (Q3 .lss flags 0)
 (some false)
 (cond (Q3 .gtr flags 15)
 (some false)
 (cond (Q3 .neq (Q6v .i64 flags 6) 6)
 (cond (Q3 .neq (Q6v .i64 flags 6) 0)
 (some true)
 (some (Q3 .eql (Q6v .i64 flags 8) 0)))
 (some false))))
theorem Qgd {N} {kind} {flags} {r} (h:Gt N kind flags=some r):pU 215 [.int .i64 kind,.int .i64 flags] (.bool r):=by
 refine Q0 Zfg ?_;unfold Gt at h;rw [cX] at h;apply iU h<;>intro h
 ·refine cP h Qb9 p1 fun v2 h=>?_;cases h;exact (.p _)
 refine iL h fun h=>?_;refine iL h fun h=>?_;refine iR h fun h=>?_;exact iB h
def Q7z (N:Nat) (version:Int) (h_1:Qhb):Option Int:=
 (Q83 N version).bind fun v1=>
 cond (!v1)
 (some 2)
 ((Q46 N version h_1.Kind).bind fun v4=>
 cond (!v4)
 (some 8)
 ((Gt N h_1.Kind h_1.Flags).bind fun v7=>
 cond (!v7)
 (some 7)
 ((Q4s N h_1.Length).bind fun v10=>
 cond (Q3 .eql v10 0)
 (some 2)
 (some 0))))
theorem Qil {N} {version} {h_1} {r} (h:Q7z N version h_1=some r):pU 134 [.int .i64 version,.agg (Qhb.cells h_1)] (.int .i64 r):=by
 refine Q0 Zo9 ?_;unfold Q7z at h;rw [cX] at h;refine cP h Qbu p1 fun v1 h=>?_;refine iL h fun h=>?_;refine cP h Qbz p2 fun v4 h=>?_;refine iL h fun h=>?_;refine cP h Qgd p2 fun v7 h=>?_;refine iL h fun h=>?_;refine cP h Qhc p1 fun v10 h=>?_;exact iB h
def Q6b (N:Nat) (version:Int) (h_1:Qhb):Option ((List UInt8)×Int):=
 (Q7z N version h_1).bind fun v1=>
 cond (Q3 .neq v1 0)
 (some ([],v1))
 ((Je N h_1.Length).bind fun v4=>
 (X6 N (wrap .u64 (orI .i64 (Qb3 .i64 h_1.Kind 4) h_1.Flags)) 1).bind fun v6=>
 cond (Nat.ble (v6.length+v4.1.length) 4611686018427387904) (some ((v6++v4.1),0)) none)
theorem Qiw {N} {version} {h_1} {r} (h:Q6b N version h_1=some r):pU 69 [.int .i64 version,.agg (Qhb.cells h_1)] (.tuple [.str r.1,.int .i64 r.2]):=by
 refine Q0 k69 ?_;unfold Q6b at h;rw [cX] at h;refine cP h Qil (.cons (.p _) (.cons (Ap p3) .nil)) fun v1 h=>?_;refine iL2 h fun h=>?_;refine cP h Q35 p1 fun v4 h=>?_;refine cP h Ys p2 fun v6 h=>?_;refine kU h fun h=>?_;obtain rfl:=Qm h;exact u2
def Q66 (N:Nat) (version:Int) (p:Q1):Option ((List UInt8)×Int):=
 (Q5q N version p).bind fun v1=>
 cond (Q3 .neq v1.2 0)
 (some ([],v1.2))
 ((Q0u N version p).bind fun v4=>
 cond (Q3 .neq v4.2 0)
 (some ([],v4.2))
 ((Q6b N version (⟨p.Kind,v4.1,(v1.1.length:Int)⟩:Qhb)).bind fun v7=>
 cond (Q3 .neq v7.2 0)
 (some ([],v7.2))
 (cond (Nat.ble (v7.1.length+v1.1.length) 4611686018427387904) (some ((v7.1++v1.1),0)) none)))
theorem Qi2 {N} {version} {p} {r} (h:Q66 N version p=some r):pU 40 [.int .i64 version,.agg (Q1.cells p)] (.tuple [.str r.1,.int .i64 r.2]):=by
 refine Q0 k40 ?_;unfold Q66 at h;rw [cX] at h;refine cP h Qct (.cons (.p _) (.cons (Ap (Qo (f2_ (f1_ (.cons (.p _) p5))))) .nil)) fun v1 h=>?_;refine iL2 h fun h=>?_;refine cP h Q7j (.cons (.p _) (.cons (Ap (Qo (f2_ (f1_ (.cons (.p _) p5))))) .nil)) fun v4 h=>?_;refine iL2 h fun h=>?_;refine cP h Qiw (.cons (.p _) (.cons (Ap p3) .nil)) fun v7 h=>?_;refine iL2 h fun h=>?_;refine kU h fun h=>?_;obtain rfl:=Qm h;exact u2
def Q6i (_N:Nat) (l:Ua):Option Bool:=
 cond (Q3 .geq l.MaxPacket 16)
 (cond (Q3 .leq l.MaxPacket 1048576)
 (cond (Q3 .geq l.MaxDepth 0)
 (some (Q3 .leq l.MaxDepth 32))
 (some false))
 (some false))
 (some false)
theorem Qdh {N} {l} {r} (h:Q6i N l=some r):pU 39 [.agg (Ua.cells l)] (.bool r):=by
 refine Q0 k39 ?_;unfold Q6i at h;rw [cX] at h;refine iR h fun h=>?_;refine iR h fun h=>?_;exact iB h
def Wr (N:Nat) (e:Qe) (l:Ua):Option ((List UInt8)×Int):=
 (Q6i N l).bind fun v1=>
 cond (!v1)
 (some ([],2))
 ((X0 N e).bind fun v4=>
 cond (Q3 .neq v4.2.2 0)
 (some ([],v4.2.2))
 ((Q66 N v4.1 v4.2.1).bind fun v7=>
 cond (Q3 .neq v7.2 0)
 (some ([],v7.2))
 (cond (Q3 .gtr (v7.1.length:Int) l.MaxPacket)
 (some ([],4))
 (some (v7.1,0)))))
theorem Q20 {N} {e} {l} {r} (h:Wr N e l=some r):pU 14 [.agg (Qe.cells e),.agg (Ua.cells l)] (.tuple [.str r.1,.int .i64 r.2]):=by
 refine Q0 k14 ?_;unfold Wr at h;rw [cX] at h;refine cP h Qdh (.cons q2 .nil) fun v1 h=>?_;refine iL2 h fun h=>?_;refine cP h Ud (.cons (Ap (Qo (Qo (Qo (f2_ (f1_ (.cons (.p _) p5))))))) .nil) fun v4 h=>?_;refine iL2 h fun h=>?_;refine cP h Qi2 (.cons (.p _) (.cons (Ap (Qo (f2_ (f1_ (.cons (.p _) p5))))) .nil)) fun v7 h=>?_;refine iL2 h fun h=>?_;exact iB2 h
def Xp (_N:Nat) (k_0:Int) (f:Int):Option Bool:=
 cond (Q3 .eql k_0 3)
 (cond (Q3 .geq f 0)
 (cond (Q3 .leq f 15)
 (cond (Q3 .lss (((wrap .i64 ((f:Int).tdiv 2)):Int).tmod 4) 3)
 (cond (Q3 .lss f 8)
 (some true)
 (some (Q3 .gtr (((wrap .i64 ((f:Int).tdiv 2)):Int).tmod 4) 0)))
 (some false))
 (some false))
 (some false))
 (cond (Q3 .eql k_0 6)
 (some (Q3 .eql f 2))
 (cond (Q3 .eql k_0 8)
 (some (Q3 .eql f 2))
 (cond (Q3 .eql k_0 10)
 (some (Q3 .eql f 2))
 (some (Q3 .eql f 0)))))
theorem Q94 {N} {k_0} {f} {r} (h:Xp N k_0 f=some r):pU 137 [.int .i64 k_0,.int .i64 f] (.bool r):=by
 refine Q0 Zil ?_;unfold Xp at h;rw [cX] at h;apply iU h<;>intro h
 ·refine iR h fun h=>?_;refine iR h fun h=>?_;refine iR h fun h=>?_;exact iB h
 refine ifO h (fun hc6 h=>?_) (fun hc6 h=>?_)
 ·refine ifT hc6 ?_;cases h;exact (.p _)
 refine ifO h (fun hc7 h=>?_) (fun hc7 h=>?_)
 ·refine ifT hc7 ?_;cases h;exact (.p _)
 exact iB h
def Q0o (N:Nat) (version:Int) (h_1:Qhb):Option Int:=
 (Z8 N version).bind fun v1=>
 cond (!v1)
 (some 2)
 ((Um N version h_1.Kind).bind fun v4=>
 cond (!v4)
 (some 8)
 ((Xp N h_1.Kind h_1.Flags).bind fun v7=>
 cond (!v7)
 (some 7)
 (cond (Q3 .lss h_1.Length 0)
 (some 2)
 (cond (Q3 .gtr h_1.Length 268435455)
 (some 2)
 (some 0)))))
theorem Q90 {N} {version} {h_1} {r} (h:Q0o N version h_1=some r):pU 71 [.int .i64 version,.agg (Qhb.cells h_1)] (.int .i64 r):=by
 refine Q0 k71 ?_;unfold Q0o at h;rw [cX] at h;refine cP h Y8 p1 fun v1 h=>?_;refine iL h fun h=>?_;refine cP h Q5d p2 fun v4 h=>?_;refine iL h fun h=>?_;refine cP h Q94 p2 fun v7 h=>?_;refine iL h fun h=>?_;refine iL h fun h=>?_;exact iB h
def Jh (N:Nat) (version:Int) (h_1:Qhb):Option ((List UInt8)×Int):=
 (Q0o N version h_1).bind fun v1=>
 cond (Q3 .neq v1 0)
 (some ([],v1))
 ((Wo N h_1.Length).bind fun v4=>
 (Zl N (wrap .u64 (wrap .i64 ((wrap .i64 (16 * h_1.Kind))+h_1.Flags))) 1).bind fun v6=>
 cond (Nat.ble (v6.length+v4.1.length) 4611686018427387904) (some ((v6++v4.1),0)) none)
theorem Q8u {N} {version} {h_1} {r} (h:Jh N version h_1=some r):pU 42 [.int .i64 version,.agg (Qhb.cells h_1)] (.tuple [.str r.1,.int .i64 r.2]):=by
 refine Q0 k42 ?_;unfold Jh at h;rw [cX] at h;refine cP h Q90 (.cons (.p _) (.cons (Ap p3) .nil)) fun v1 h=>?_;refine iL2 h fun h=>?_;refine cP h Q1j p1 fun v4 h=>?_;refine cP h Y5 p2 fun v6 h=>?_;refine kU h fun h=>?_;obtain rfl:=Qm h;exact u2
def Yd (N:Nat) (version:Int) (p:Q1):Option ((List UInt8)×Int):=
 (Vp N version p).bind fun v1=>
 cond (Q3 .neq v1.2 0)
 (some ([],v1.2))
 ((Xo N version p).bind fun v4=>
 (Jh N version (⟨p.Kind,v4.1,(v1.1.length:Int)⟩:Qhb)).bind fun v6=>
 cond (Nat.ble (v6.1.length+v1.1.length) 4611686018427387904) (some ((v6.1++v1.1),0)) none)
theorem Jv {N} {version} {p} {r} (h:Yd N version p=some r):pU 15 [.int .i64 version,.agg (Q1.cells p)] (.tuple [.str r.1,.int .i64 r.2]):=by
 refine Q0 k15 ?_;unfold Yd at h;rw [cX] at h;refine cP h Q43 (.cons (.p _) (.cons (Ap (Qo (f2_ (f1_ (.cons (.p _) p5))))) .nil)) fun v1 h=>?_;refine iL2 h fun h=>?_;refine cP h Q4b (.cons (.p _) (.cons (Ap (Qo (f2_ (f1_ (.cons (.p _) p5))))) .nil)) fun v4 h=>?_;refine cP h Q8u (.cons (.p _) (.cons (Ap p3) .nil)) fun v6 h=>?_;refine kU h fun h=>?_;obtain rfl:=Qm h;exact u2
end
end
end Go.Av
