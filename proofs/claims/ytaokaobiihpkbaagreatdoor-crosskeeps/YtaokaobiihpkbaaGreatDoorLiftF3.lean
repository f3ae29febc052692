/- Part of the proof of CrossKeeps: for every input the law returns true; no condition. -/
import Derived.Test.YtaokaobiihpkbaaGreatDoorLiftF2
set_option linter.all false
open Go.IntKind (wrap)
namespace Go.Av
noncomputable section
open Go.Proofs
set_option maxRecDepth 100000
set_option maxHeartbeats 4000000
attribute [local irreducible] Xu Qw Q8g Q7d Qru Qrc Qi6
section
def X3 (N:Nat) (a:Qf) (b:Qf):Option Bool:=
 cond (Q4 .eql a.Proto b.Proto)
 (cond (Q4 .eql a.Kind b.Kind)
 (cond (G9 .eql a.Topic b.Topic)
 (cond (G9 .eql a.Payload b.Payload)
 (cond (Q4 .eql a.QoS b.QoS)
 (cond (a.Retain == b.Retain)
 (cond (a.Dup == b.Dup)
 (cond (Q4 .eql a.ID b.ID)
 ((Xs N a.Props b.Props).bind fun v9=>
 cond v9
 (cond (Q4 .eql a.Type' b.Type')
 ((U0 N a.Hops b.Hops).bind fun v13=>
 cond v13
 (cond (Q4 .eql a.Channel b.Channel)
 ((Wq N a.Packet b.Packet).bind fun v17=>
 cond v17
 (cond (((a.Msg.Type':Int) == b.Msg.Type')&&(((a.Msg.Flags.Dup:Bool) == b.Msg.Flags.Dup)&&(((a.Msg.Flags.QoS:Int) == b.Msg.Flags.QoS)&&(((a.Msg.Flags.Retain:Bool) == b.Msg.Flags.Retain)&&(((a.Msg.Flags.Will:Bool) == b.Msg.Flags.Will)&&(((a.Msg.Flags.Clean:Bool) == b.Msg.Flags.Clean)&&(((a.Msg.Flags.Type':Int) == b.Msg.Flags.Type')&&(((a.Msg.Gateway:Int) == b.Msg.Gateway)&&(((a.Msg.Radius:Int) == b.Msg.Radius)&&(((a.Msg.Time:Int) == b.Msg.Time)&&(((a.Msg.Timed:Bool) == b.Msg.Timed)&&(((a.Msg.TopicID:Int) == b.Msg.TopicID)&&(((a.Msg.MsgID:Int) == b.Msg.MsgID)&&(((a.Msg.Code:Int) == b.Msg.Code)&&(((a.Msg.Name:List UInt8) == b.Msg.Name)&&(((a.Msg.Data:List UInt8) == b.Msg.Data)&&true))))))))))))))))
 ((Wr N a.Frame b.Frame).bind fun v21=>
 some v21)
 (some false))
 (some false))
 (some false))
 (some false))
 (some false))
 (some false))
 (some false))
 (some false))
 (some false))
 (some false))
 (some false))
 (some false))
 (some false))
 (some false)
theorem Q6e {N} {a} {b} {r} (h:X3 N a b=some r):pU 12 [.agg (Qf.cells a),.agg (Qf.cells b)] (.bool r):=by
 refine Q2 k12 ?_;unfold X3 at h;rw [cX,cY] at h;refine iR h fun h=>?_;refine iR h fun h=>?_;refine iR h fun h=>?_;refine iR h fun h=>?_;refine iR h fun h=>?_;refine iR h fun h=>?_;refine iR h fun h=>?_;refine iR h fun h=>?_;refine cP h Jx p2 fun v9 h=>?_;refine iR h fun h=>?_;refine iR h fun h=>?_;refine cP h Q6c p2 fun v13 h=>?_;refine iR h fun h=>?_;refine iR h fun h=>?_;refine cP h Q1s (.cons (Ar (Xd (f2_ (f1_ (.cons (.p _) p5))))) (.cons (Ar (Xd (f2_ (f1_ (.cons (.p _) p5))))) .nil)) fun v17 h=>?_;refine iR h fun h=>?_;refine Qnh (ks := [0,2,0,2,2,2,0,0,0,0,2,0,0,0,1,1]) (xs := [iI a.Msg.Type',.p (.bool a.Msg.Flags.Dup),iI a.Msg.Flags.QoS,.p (.bool a.Msg.Flags.Retain),.p (.bool a.Msg.Flags.Will),.p (.bool a.Msg.Flags.Clean),iI a.Msg.Flags.Type',iI a.Msg.Gateway,iI a.Msg.Radius,iI a.Msg.Time,.p (.bool a.Msg.Timed),iI a.Msg.TopicID,iI a.Msg.MsgID,iI a.Msg.Code,iS a.Msg.Name,iS a.Msg.Data]) (ys := [iI b.Msg.Type',.p (.bool b.Msg.Flags.Dup),iI b.Msg.Flags.QoS,.p (.bool b.Msg.Flags.Retain),.p (.bool b.Msg.Flags.Will),.p (.bool b.Msg.Flags.Clean),iI b.Msg.Flags.Type',iI b.Msg.Gateway,iI b.Msg.Radius,iI b.Msg.Time,.p (.bool b.Msg.Timed),iI b.Msg.TopicID,iI b.Msg.MsgID,iI b.Msg.Code,iS b.Msg.Name,iS b.Msg.Data]) (b:=(((a.Msg.Type':Int) == b.Msg.Type')&&(((a.Msg.Flags.Dup:Bool) == b.Msg.Flags.Dup)&&(((a.Msg.Flags.QoS:Int) == b.Msg.Flags.QoS)&&(((a.Msg.Flags.Retain:Bool) == b.Msg.Flags.Retain)&&(((a.Msg.Flags.Will:Bool) == b.Msg.Flags.Will)&&(((a.Msg.Flags.Clean:Bool) == b.Msg.Flags.Clean)&&(((a.Msg.Flags.Type':Int) == b.Msg.Flags.Type')&&(((a.Msg.Gateway:Int) == b.Msg.Gateway)&&(((a.Msg.Radius:Int) == b.Msg.Radius)&&(((a.Msg.Time:Int) == b.Msg.Time)&&(((a.Msg.Timed:Bool) == b.Msg.Timed)&&(((a.Msg.TopicID:Int) == b.Msg.TopicID)&&(((a.Msg.MsgID:Int) == b.Msg.MsgID)&&(((a.Msg.Code:Int) == b.Msg.Code)&&(((a.Msg.Name:List UInt8) == b.Msg.Name)&&(((a.Msg.Data:List UInt8) == b.Msg.Data)&&true))))))))))))))))) rfl ?_;refine iR h fun h=>?_;refine cP h Q1c (.cons q4 (.cons q4 .nil)) fun v21 h=>?_;cases h;exact (.p _)
def X5 (N:Nat) (e:Qf):Option Bool:=
 (Wq N e.Packet (⟨0,false,false,0,0,[],[],false,0,[],false,[],false,[],false,(⟨[],[],0,false,[]⟩:J2),false,0,[],[],[]⟩:Qu)).bind fun v1=>
 cond v1
 (cond (((e.Msg.Type':Int) == 0)&&(((e.Msg.Flags.Dup:Bool) == false)&&(((e.Msg.Flags.QoS:Int) == 0)&&(((e.Msg.Flags.Retain:Bool) == false)&&(((e.Msg.Flags.Will:Bool) == false)&&(((e.Msg.Flags.Clean:Bool) == false)&&(((e.Msg.Flags.Type':Int) == 0)&&(((e.Msg.Gateway:Int) == 0)&&(((e.Msg.Radius:Int) == 0)&&(((e.Msg.Time:Int) == 0)&&(((e.Msg.Timed:Bool) == false)&&(((e.Msg.TopicID:Int) == 0)&&(((e.Msg.MsgID:Int) == 0)&&(((e.Msg.Code:Int) == 0)&&(((e.Msg.Name:List UInt8) == [])&&(((e.Msg.Data:List UInt8) == [])&&true))))))))))))))))
 ((Wr N e.Frame (⟨0,0,[],[]⟩:Zn)).bind fun v5=>
 some v5)
 (some false))
 (some false)
theorem Q1b {N} {e} {r} (h:X5 N e=some r):pU 40 [.agg (Qf.cells e)] (.bool r):=by
 refine Q2 k40 ?_;unfold X5 at h;refine cP h Q1s (.cons (Ar (Xd (f2_ (f1_ (.cons (.p _) p5))))) (.cons (Ar (Xd (f2_ (f1_ (.cons (.nil _) (f2_ (.cons (.nil _) (.cons (.nil _) (.cons (.nil _) .nil))))))))) .nil)) fun v1 h=>?_;refine iR h fun h=>?_;refine Qnh (ks := [0,2,0,2,2,2,0,0,0,0,2,0,0,0,1,1]) (xs := [iI e.Msg.Type',.p (.bool e.Msg.Flags.Dup),iI e.Msg.Flags.QoS,.p (.bool e.Msg.Flags.Retain),.p (.bool e.Msg.Flags.Will),.p (.bool e.Msg.Flags.Clean),iI e.Msg.Flags.Type',iI e.Msg.Gateway,iI e.Msg.Radius,iI e.Msg.Time,.p (.bool e.Msg.Timed),iI e.Msg.TopicID,iI e.Msg.MsgID,iI e.Msg.Code,iS e.Msg.Name,iS e.Msg.Data]) (ys := [iI 0,.p (.bool false),iI 0,.p (.bool false),.p (.bool false),.p (.bool false),iI 0,iI 0,iI 0,iI 0,.p (.bool false),iI 0,iI 0,iI 0,iS [],iS []]) (b:=(((e.Msg.Type':Int) == 0)&&(((e.Msg.Flags.Dup:Bool) == false)&&(((e.Msg.Flags.QoS:Int) == 0)&&(((e.Msg.Flags.Retain:Bool) == false)&&(((e.Msg.Flags.Will:Bool) == false)&&(((e.Msg.Flags.Clean:Bool) == false)&&(((e.Msg.Flags.Type':Int) == 0)&&(((e.Msg.Gateway:Int) == 0)&&(((e.Msg.Radius:Int) == 0)&&(((e.Msg.Time:Int) == 0)&&(((e.Msg.Timed:Bool) == false)&&(((e.Msg.TopicID:Int) == 0)&&(((e.Msg.MsgID:Int) == 0)&&(((e.Msg.Code:Int) == 0)&&(((e.Msg.Name:List UInt8) == [])&&(((e.Msg.Data:List UInt8) == [])&&true))))))))))))))))) rfl ?_;refine iR h fun h=>?_;refine cP h Q1c (.cons q4 (.cons q4n .nil)) fun v5 h=>?_;cases h;exact (.p _)
def Yg (_N:Nat) (id:Int):Option (Q7):=
 cond (Q4 .eql id 1)
 (some (⟨1,[3,16],0,1⟩:Q7))
 (cond (Q4 .eql id 2)
 (some (⟨3,[3,16],0,4294967295⟩:Q7))
 (cond (Q4 .eql id 3)
 (some (⟨5,[3,16],0,0⟩:Q7))
 (cond (Q4 .eql id 8)
 (some (⟨5,[3,16],0,0⟩:Q7))
 (cond (Q4 .eql id 9)
 (some (⟨6,[3,16],0,0⟩:Q7))
 (cond (Q4 .eql id 11)
 (some (⟨4,[3,8],1,268435455⟩:Q7))
 (cond (Q4 .eql id 17)
 (some (⟨3,[1,2,14],0,4294967295⟩:Q7))
 (cond (Q4 .eql id 18)
 (some (⟨5,[2],0,0⟩:Q7))
 (cond (Q4 .eql id 26)
 (some (⟨5,[2],0,0⟩:Q7))
 (cond (Q4 .eql id 19)
 (some (⟨2,[2],0,65535⟩:Q7))
 (cond (Q4 .eql id 21)
 (some (⟨5,[1,2,15],0,0⟩:Q7))
 (cond (Q4 .eql id 22)
 (some (⟨6,[1,2,15],0,0⟩:Q7))
 (cond (Q4 .eql id 23)
 (some (⟨1,[1],0,1⟩:Q7))
 (cond (Q4 .eql id 25)
 (some (⟨1,[1],0,1⟩:Q7))
 (cond (Q4 .eql id 24)
 (some (⟨3,[16],0,4294967295⟩:Q7))
 (cond (Q4 .eql id 28)
 (some (⟨5,[2,14],0,0⟩:Q7))
 (cond (Q4 .eql id 31)
 (some (⟨5,[2,4,5,6,7,9,11,14,15],0,0⟩:Q7))
 (cond (Q4 .eql id 33)
 (some (⟨2,[1,2],1,65535⟩:Q7))
 (cond (Q4 .eql id 34)
 (some (⟨2,[1,2],0,65535⟩:Q7))
 (cond (Q4 .eql id 35)
 (some (⟨2,[3],1,65535⟩:Q7))
 (cond (Q4 .eql id 36)
 (some (⟨1,[2],0,1⟩:Q7))
 (cond (Q4 .eql id 37)
 (some (⟨1,[2],0,1⟩:Q7))
 (cond (Q4 .eql id 40)
 (some (⟨1,[2],0,1⟩:Q7))
 (cond (Q4 .eql id 41)
 (some (⟨1,[2],0,1⟩:Q7))
 (cond (Q4 .eql id 42)
 (some (⟨1,[2],0,1⟩:Q7))
 (cond (Q4 .eql id 38)
 (some (⟨7,[1,2,3,4,5,6,7,8,9,10,11,14,15,16],0,0⟩:Q7))
 (cond (Q4 .eql id 39)
 (some (⟨3,[1,2],1,4294967295⟩:Q7))
 (some (⟨0,[],0,0⟩:Q7))))))))))))))))))))))))))))
theorem U3 {N} {id} {r} (h:Yg N id=some r):pU 109 [.int .i64 id] (.agg (Q7.cells r)):=by
 refine Q2 Za0 ?_;unfold Yg at h;rw [cX] at h;apply iU h<;>intro h
 ·refine Qa Qu5 ?_;obtain rfl:=Qn h;exact (Ar (.cons (.p _) (.cons (frz_own (c:=(cI .i64)) (l:=([3,16]:List Int)) (fun _=>rfl) rfl trivial sd) p2)))
 apply iU h<;>intro h
 ·refine Qa Qzb ?_;obtain rfl:=Qn h;exact (Ar (.cons (.p _) (.cons (frz_own (c:=(cI .i64)) (l:=([3,16]:List Int)) (fun _=>rfl) rfl trivial sd) p2)))
 refine ifO h (fun hc3 h=>?_) (fun hc3 h=>?_)
 ·refine ifT hc3 ?_;refine Qa Qrz ?_;obtain rfl:=Qn h;exact (Ar (.cons (.p _) (.cons (frz_own (c:=(cI .i64)) (l:=([3,16]:List Int)) (fun _=>rfl) rfl trivial sd) p2)))
 apply iU h<;>intro h
 ·refine Qa Qrz ?_;obtain rfl:=Qn h;exact (Ar (.cons (.p _) (.cons (frz_own (c:=(cI .i64)) (l:=([3,16]:List Int)) (fun _=>rfl) rfl trivial sd) p2)))
 apply iU h<;>intro h
 ·refine Qa Qrz ?_;obtain rfl:=Qn h;exact (Ar (.cons (.p _) (.cons (frz_own (c:=(cI .i64)) (l:=([3,16]:List Int)) (fun _=>rfl) rfl trivial sd) p2)))
 apply iU h<;>intro h
 ·obtain rfl:=Qn h;exact (Ar (.cons (.p _) (.cons (frz_own (c:=(cI .i64)) (l:=([3,8]:List Int)) (fun _=>rfl) rfl trivial sd) p2)))
 apply iU h<;>intro h
 ·refine Qa Qzb ?_;obtain rfl:=Qn h;exact (Ar (.cons (.p _) (.cons (frz_own (c:=(cI .i64)) (l:=([1,2,14]:List Int)) (fun _=>rfl) rfl trivial sd) p2)))
 refine ifO h (fun hc8 h=>?_) (fun hc8 h=>?_)
 ·refine ifT hc8 ?_;refine Qa Qrz ?_;obtain rfl:=Qn h;exact (Ar (.cons (.p _) (.cons (frz_own (c:=(cI .i64)) (l:=([2]:List Int)) (fun _=>rfl) rfl trivial sd) p2)))
 apply iU h<;>intro h
 ·refine Qa Qrz ?_;obtain rfl:=Qn h;exact (Ar (.cons (.p _) (.cons (frz_own (c:=(cI .i64)) (l:=([2]:List Int)) (fun _=>rfl) rfl trivial sd) p2)))
 apply iU h<;>intro h
 ·refine Qa Qzz ?_;obtain rfl:=Qn h;exact (Ar (.cons (.p _) (.cons (frz_own (c:=(cI .i64)) (l:=([2]:List Int)) (fun _=>rfl) rfl trivial sd) p2)))
 apply iU h<;>intro h
 ·refine Qa Qrz ?_;obtain rfl:=Qn h;exact (Ar (.cons (.p _) (.cons (frz_own (c:=(cI .i64)) (l:=([1,2,15]:List Int)) (fun _=>rfl) rfl trivial sd) p2)))
 apply iU h<;>intro h
 ·refine Qa Qrz ?_;obtain rfl:=Qn h;exact (Ar (.cons (.p _) (.cons (frz_own (c:=(cI .i64)) (l:=([1,2,15]:List Int)) (fun _=>rfl) rfl trivial sd) p2)))
 refine ifO h (fun hc13 h=>?_) (fun hc13 h=>?_)
 ·refine ifT hc13 ?_;refine Qa Qu5 ?_;obtain rfl:=Qn h;exact (Ar (.cons (.p _) (.cons (frz_own (c:=(cI .i64)) (l:=([1]:List Int)) (fun _=>rfl) rfl trivial sd) p2)))
 apply iU h<;>intro h
 ·refine Qa Qu5 ?_;obtain rfl:=Qn h;exact (Ar (.cons (.p _) (.cons (frz_own (c:=(cI .i64)) (l:=([1]:List Int)) (fun _=>rfl) rfl trivial sd) p2)))
 apply iU h<;>intro h
 ·refine Qa Qzb ?_;obtain rfl:=Qn h;exact (Ar (.cons (.p _) (.cons (frz_own (c:=(cI .i64)) (l:=([16]:List Int)) (fun _=>rfl) rfl trivial sd) p2)))
 apply iU h<;>intro h
 ·refine Qa Qrz ?_;obtain rfl:=Qn h;exact (Ar (.cons (.p _) (.cons (frz_own (c:=(cI .i64)) (l:=([2,14]:List Int)) (fun _=>rfl) rfl trivial sd) p2)))
 apply iU h<;>intro h
 ·refine Qa Qrz ?_;obtain rfl:=Qn h;exact (Ar (.cons (.p _) (.cons (frz_own (c:=(cI .i64)) (l:=([2,4,5,6,7,9,11,14,15]:List Int)) (fun _=>rfl) rfl trivial sd) p2)))
 apply iU h<;>intro h
 ·refine Qa Qzz ?_;obtain rfl:=Qn h;exact (Ar (.cons (.p _) (.cons (frz_own (c:=(cI .i64)) (l:=([1,2]:List Int)) (fun _=>rfl) rfl trivial sd) p2)))
 apply iU h<;>intro h
 ·refine Qa Qzz ?_;obtain rfl:=Qn h;exact (Ar (.cons (.p _) (.cons (frz_own (c:=(cI .i64)) (l:=([1,2]:List Int)) (fun _=>rfl) rfl trivial sd) p2)))
 apply iU h<;>intro h
 ·refine Qa Qzz ?_;obtain rfl:=Qn h;exact (Ar (.cons (.p _) (.cons (frz_own (c:=(cI .i64)) (l:=([3]:List Int)) (fun _=>rfl) rfl trivial sd) p2)))
 refine ifO h (fun hc21 h=>?_) (fun hc21 h=>?_)
 ·refine ifT hc21 ?_;refine Qa Qu5 ?_;obtain rfl:=Qn h;exact (Ar (.cons (.p _) (.cons (frz_own (c:=(cI .i64)) (l:=([2]:List Int)) (fun _=>rfl) rfl trivial sd) p2)))
 refine ifO h (fun hc22 h=>?_) (fun hc22 h=>?_)
 ·refine ifT hc22 ?_;refine Qa Qu5 ?_;obtain rfl:=Qn h;exact (Ar (.cons (.p _) (.cons (frz_own (c:=(cI .i64)) (l:=([2]:List Int)) (fun _=>rfl) rfl trivial sd) p2)))
 refine ifO h (fun hc23 h=>?_) (fun hc23 h=>?_)
 ·refine ifT hc23 ?_;refine Qa Qu5 ?_;obtain rfl:=Qn h;exact (Ar (.cons (.p _) (.cons (frz_own (c:=(cI .i64)) (l:=([2]:List Int)) (fun _=>rfl) rfl trivial sd) p2)))
 refine ifO h (fun hc24 h=>?_) (fun hc24 h=>?_)
 ·refine ifT hc24 ?_;refine Qa Qu5 ?_;obtain rfl:=Qn h;exact (Ar (.cons (.p _) (.cons (frz_own (c:=(cI .i64)) (l:=([2]:List Int)) (fun _=>rfl) rfl trivial sd) p2)))
 apply iU h<;>intro h
 ·refine Qa Qu5 ?_;obtain rfl:=Qn h;exact (Ar (.cons (.p _) (.cons (frz_own (c:=(cI .i64)) (l:=([2]:List Int)) (fun _=>rfl) rfl trivial sd) p2)))
 apply iU h<;>intro h
 ·refine Qa Qrz ?_;obtain rfl:=Qn h;exact (Ar (.cons (.p _) (.cons (frz_own (c:=(cI .i64)) (l:=([1,2,3,4,5,6,7,8,9,10,11,14,15,16]:List Int)) (fun _=>rfl) rfl trivial sd) p2)))
 apply iU h<;>intro h
 ·refine Qa Qzb ?_;obtain rfl:=Qn h;exact (Ar (.cons (.p _) (.cons (frz_own (c:=(cI .i64)) (l:=([1,2]:List Int)) (fun _=>rfl) rfl trivial sd) p2)))
 obtain rfl:=Qn h;exact (Ar (.cons (.p _) (.cons (.nil _) p2)))
def Y2 (N:Nat) (kind:Int) (v1:Q7):Nat→Int→Option Bool
 | 0,_=>none
 | n+1,i12=>
  cond (Q4 .lss i12 ((Q8 (cI .i64) v1.kinds).length:Int))
  ((idx v1.kinds i12).bind fun y14=>
  cond (Q4 .eql y14 kind)
  (some true)
  (Y2 N kind v1 n (wrap .i64 (i12+1))))
  (some false)
def Xz (N:Nat) (kind:Int) (id:Int):Option Bool:=
 (Yg N id).bind fun v1=>
 Y2 N kind v1 N 0
theorem Q23 {N} {kind} {id} {r} (h:Xz N kind id=some r):pU 108 [.int .i64 kind,.int .i64 id] (.bool r):=by
 refine Q2 Z8h ?_;unfold Xz at h;refine cP h U3 p1 fun v1 h=>?_;refine lpH (τ:=Int) (fun i12=>(iI kind::a4 (.p (.slice 1 (Q8 (cI .i64) v1.kinds))::iI i12::a8 (a4 (a2 (.any :: [])))):List AV)) (fun n0 i12=>Y2 N kind v1 n0 i12) (0) h fun n0 i12 h=>?_
 first | rw [Y2] at h | simp only [Y2] at h
 rw [cX] at h;refine iR h fun h=>?_;refine xR h fun y14 h=>?_;refine iL h fun h=>?_;show Exists _;exact ⟨(n0,(wrap .i64 (i12+1))),h,Lf _,(fun i=>i),Ya⟩
def Xg (_N:Nat) (s90:Bool):Option Int:=
 cond s90
 (some 2)
 (some 0)
def Xf (N:Nat) (p:Qk) (v4:Q7) (s84:Bool):Option Int:=
 cond s84
 (some 9)
 (cond (Q4 .eql v4.shape 6)
 (Xg N (Q4 .gtr (p.Text.length:Int) 65535))
 (Xg N false))
def Yi (N:Nat) (p:Qk) (v4:Q7) (s65:Bool):Option Int:=
 cond s65
 (some 6)
 (cond (Q4 .eql p.ID 8)
 ((Yf N p.Text).bind fun v86=>
 Xf N p v4 (!v86))
 (Xf N p v4 false))
def Y6 (N:Nat) (p:Qk) (v4:Q7) (text43:Bool):Option Int:=
 cond text43
 ((Wb N p.Text).bind fun v67=>
 cond (!v67)
 (Yi N p v4 true)
 ((Wb N p.Value).bind fun v70=>
 Yi N p v4 (!v70)))
 (Yi N p v4 false)
def Zd (N:Nat) (p:Qk) (v4:Q7) (s38:Bool):Option Int:=
 cond s38
 (some 9)
 (cond (Q4 .eql v4.shape 5)
 (Y6 N p v4 true)
 (Y6 N p v4 (Q4 .eql v4.shape 7)))
def Qi (N:Nat) (p:Qk) (v4:Q7) (s23:Bool):Option Int:=
 cond s23
 (some 2)
 (cond (Q4 .leq v4.shape 4)
 (cond (Q4 .lss p.N' v4.least)
 (Zd N p v4 true)
 (Zd N p v4 (Q4 .gtr p.N' v4.most)))
 (Zd N p v4 false))
def Vf (N:Nat) (kind:Int) (p:Qk):Option Int:=
 (Xz N kind p.ID).bind fun v1=>
 cond (!v1)
 (some 9)
 ((Yg N p.ID).bind fun v4=>
 cond (Q4 .leq v4.shape 4)
 (cond (G9 .neq p.Text [])
 (Qi N p v4 true)
 (cond (Q4 .neq v4.shape 7)
 (Qi N p v4 (G9 .neq p.Value []))
 (Qi N p v4 false)))
 (cond (Q4 .neq p.N' 0)
 (Qi N p v4 true)
 (cond (Q4 .neq v4.shape 7)
 (Qi N p v4 (G9 .neq p.Value []))
 (Qi N p v4 false))))
theorem Q53 {N} {kind} {p} {r} (h:Vf N kind p=some r):pU 84 [.int .i64 kind,.agg (Qk.cells p)] (.int .i64 r):=by
 refine Q2 k84 ?_;unfold Vf at h;rw [cX,cY] at h;refine cP h Q23 p2 fun v1 h=>?_;refine iL h fun h=>?_;refine cP h U3 p1 fun v4 h=>?_;refine Q4e ?_;refine Vy (σ:=Bool) (fun s23=>(a2 (.any :: .ptr 0 0 :: .any :: .ptr 1 0 :: .p (.bool (Qi3 .leq v4.shape 4))::a16 (a16 (a4 (.p (.bool s23)::a16 (a16 (a16 (a4 (a2 ([]))))))))):List AV)) (fun _=>(.cells (iI p.ID :: .p (.int .u32 p.N')::iS p.Text::iS p.Value :: []) :: .cells (iI v4.shape :: .p (.slice 1 (Q8 (cI .i64) v4.kinds)) :: .p (.int .u32 v4.least) :: .p (.int .u32 v4.most) :: []) :: []:List AObj)) (fun s23=>Qi N p v4 s23=some r) (fun _ _=>Li _) ?_ ?_
 ·refine ifO h (fun hc24 h=>?_) (fun hc24 h=>?_)
  ·apply iU h<;>intro h
   ·show Exists _;exact ⟨(true),h,(fun i=>i),Ya⟩
   refine ifF (Z0v hc24) ?_;apply iU h<;>intro h
   ·show Exists _;exact ⟨((Z1g .neq p.Value [])),h,(fun i=>i),Ya⟩
   show Exists _;exact ⟨(false),h,(fun i=>i),Ya⟩
  refine ifT (Qza hc24) ?_;apply iU h<;>intro h
  ·show Exists _;exact ⟨(true),h,(fun i=>i),Ya⟩
  apply iU h<;>intro h
  ·show Exists _;exact ⟨((Z1g .neq p.Value [])),h,(fun i=>i),Ya⟩
  show Exists _;exact ⟨(false),h,(fun i=>i),Ya⟩
 rintro s23 h
 unfold Qi at h;rw [cX] at h;refine iL h fun h=>?_;refine Q4e ?_;refine Vy (σ:=Bool) (fun s38=>(a2 (.any :: .ptr 0 0 :: .any :: .ptr 1 0::a16 (a16 (a16 (a4 (.p (.bool s38)::a16 (a16 (a4 (a2 (.any :: []))))))))):List AV)) (fun _=>(.cells (iI p.ID :: .p (.int .u32 p.N')::iS p.Text::iS p.Value :: []) :: .cells (iI v4.shape :: .p (.slice 1 (Q8 (cI .i64) v4.kinds)) :: .p (.int .u32 v4.least) :: .p (.int .u32 v4.most) :: []) :: []:List AObj)) (fun s38=>Zd N p v4 s38=some r) (fun _ _=>Li _) ?_ ?_
 ·apply iU h<;>intro h
  ·apply iU h<;>intro h
   ·show Exists _;exact ⟨(true),h,(fun i=>i),Ya⟩
   show Exists _;exact ⟨((Qi3 .gtr p.N' v4.most)),h,(fun i=>i),Ya⟩
  show Exists _;exact ⟨(false),h,(fun i=>i),Ya⟩
 rintro s38 h
 unfold Zd at h;rw [cX] at h;refine iL h fun h=>?_;refine Vy (σ:=Bool) (fun text43=>(a2 (.any :: .ptr 0 0 :: .any :: .ptr 1 0 :: .any :: .p (.bool text43)::a16 (a16 (a16 (a16 (a16 (a8 (a2 ([])))))))):List AV)) (fun _=>(.cells (iI p.ID :: .p (.int .u32 p.N')::iS p.Text::iS p.Value :: []) :: .cells (iI v4.shape :: .p (.slice 1 (Q8 (cI .i64) v4.kinds)) :: .p (.int .u32 v4.least) :: .p (.int .u32 v4.most) :: []) :: []:List AObj)) (fun text43=>Y6 N p v4 text43=some r) (fun _ _=>Li _) ?_ ?_
 ·apply iU h<;>intro h
  ·show Exists _;exact ⟨(true),h,(fun i=>i),Ya⟩
  show Exists _;exact ⟨((Qi3 .eql v4.shape 7)),h,(fun i=>i),Ya⟩
 rintro text43 h
 unfold Y6 at h;refine Q4e ?_;refine Vy (σ:=Bool) (fun s65=>(a2 (.any :: .ptr 0 0 :: .any :: .ptr 1 0::a16 (a16 (a16 (a16 (a8 (.any :: .p (.bool s65)::a16 (a2 ([])))))))):List AV)) (fun _=>(.cells (iI p.ID :: .p (.int .u32 p.N')::iS p.Text::iS p.Value :: []) :: .cells (iI v4.shape :: .p (.slice 1 (Q8 (cI .i64) v4.kinds)) :: .p (.int .u32 v4.least) :: .p (.int .u32 v4.most) :: []) :: []:List AObj)) (fun s65=>Yi N p v4 s65=some r) (fun _ _=>Li _) ?_ ?_
 ·apply iU h<;>intro h
  ·refine cP h Je p1 fun v67 h=>?_;apply iU h<;>intro h
   ·show Exists _;exact ⟨(true),h,(fun i=>i),Ya⟩
   refine cP h Je p1 fun v70 h=>?_;show Exists _;exact ⟨((!v70)),h,(fun i=>i),Ya⟩
  show Exists _;exact ⟨(false),h,(fun i=>i),Ya⟩
 rintro s65 h
 unfold Yi at h;rw [cX] at h;refine iL h fun h=>?_;refine Q4e ?_;refine Vy (σ:=Bool) (fun s84=>(a2 (.any :: .ptr 0 0 :: .any :: .ptr 1 0::a16 (a16 (a16 (a16 (a16 (a2 (.p (.bool s84)::a8 (.any :: [])))))))):List AV)) (fun _=>(.cells (iI p.ID :: .p (.int .u32 p.N')::iS p.Text::iS p.Value :: []) :: .cells (iI v4.shape :: .p (.slice 1 (Q8 (cI .i64) v4.kinds)) :: .p (.int .u32 v4.least) :: .p (.int .u32 v4.most) :: []) :: []:List AObj)) (fun s84=>Xf N p v4 s84=some r) (fun _ _=>Li _) ?_ ?_
 ·apply iU h<;>intro h
  ·refine cP h We p1 fun v86 h=>?_;show Exists _;exact ⟨((!v86)),h,(fun i=>i),Ya⟩
  show Exists _;exact ⟨(false),h,(fun i=>i),Ya⟩
 rintro s84 h
 unfold Xf at h;rw [cX] at h;refine iL h fun h=>?_;refine Vy (σ:=Bool) (fun s90=>(a16 (a16 (a16 (a16 (a16 (a16 (.any :: .p (.bool s90) :: [])))))):List AV)) (fun _=>(.cells (iI p.ID :: .p (.int .u32 p.N')::iS p.Text::iS p.Value :: []) :: .cells (iI v4.shape :: .p (.slice 1 (Q8 (cI .i64) v4.kinds)) :: .p (.int .u32 v4.least) :: .p (.int .u32 v4.most) :: []) :: []:List AObj)) (fun s90=>Xg N s90=some r) (fun _ _=>Li _) ?_ ?_
 ·apply iU h<;>intro h
  ·show Exists _;exact ⟨((Qi3 .gtr (p.Text.length:Int) 65535)),h,(fun i=>i),Ya⟩
  show Exists _;exact ⟨(false),h,(fun i=>i),Ya⟩
 rintro s90 h
 unfold Xg at h;exact iB h
def X7 (N:Nat) (l:List Qk) (id:Int):Nat→Int→Option (Qk×Bool)
 | 0,_=>none
 | n+1,i14=>
  cond (Q4 .lss i14 ((Q8 Qk.cells l).length:Int))
  ((idx l i14).bind fun y16=>
  cond (Q4 .eql y16.ID id)
  ((idx l i14).bind fun y19=>
  some (y19,true))
  (X7 N l id n (wrap .i64 (i14+1))))
  (some ((⟨0,0,[],[]⟩:Qk),false))
def W0 (N:Nat) (l:List Qk) (id:Int):Option (Qk×Bool):=
 X7 N l id N 0
theorem Gd {N} {l} {id} {r} (h:W0 N l id=some r):pU 110 [.slice 4 (Q8 Qk.cells l),.int .i64 id] (.tuple [.agg (Qk.cells r.1),.bool r.2]):=by
 refine Q2 Zd7 ?_;unfold W0 at h;refine lpH (τ:=Int) (fun i14=>(.p (.slice 4 (Q8 Qk.cells l))::iI id :: .any :: .any :: .ptr 0 0 :: .any::iI i14::a16 (a2 ([])):List AV)) (fun n0 i14=>X7 N l id n0 i14) (0) h fun n0 i14 h=>?_
 first | rw [X7] at h | simp only [X7] at h
 rw [cX] at h;apply iU h<;>intro h
 ·refine xR h fun y16 h=>?_;apply iU h<;>intro h
  ·refine xR h fun y19 h=>?_;obtain rfl:=Qn h;exact (Au (.cons q4 p1))
  show Exists _;exact ⟨(n0,(wrap .i64 (i14+1))),h,Lf _,(fun i=>i),Ya⟩
 obtain rfl:=Qn h;exact (Au (.cons q4 p1))
def Jb (N:Nat) (kind:Int) (id:Int):Option Bool:=
 (Xz N kind id).bind fun v1=>
 cond v1
 (cond (Q4 .eql id 38)
 (some true)
 (cond (Q4 .eql id 11)
 (some (Q4 .eql kind 3))
 (some false)))
 (some false)
theorem Q5v {N} {kind} {id} {r} (h:Jb N kind id=some r):pU 111 [.int .i64 kind,.int .i64 id] (.bool r):=by
 refine Q2 Zd5 ?_;unfold Jb at h;rw [cX] at h;refine cP h Q23 p2 fun v1 h=>?_;refine iR h fun h=>?_;refine iL h fun h=>?_;exact iB h
def Vc (N:Nat) (kind:Int) (l:List Qk) (id:Int):Option Bool:=
 (W0 N l id).bind fun v1=>
 cond v1.2
 ((Jb N kind id).bind fun v4=>
 some (!v4))
 (some false)
theorem Q5p {N} {kind} {l} {id} {r} (h:Vc N kind l id=some r):pU 85 [.int .i64 kind,.slice 4 (Q8 Qk.cells l),.int .i64 id] (.bool r):=by
 refine Q2 k85 ?_;unfold Vc at h;refine cP h Gd p2 fun v1 h=>?_;refine iR h fun h=>?_;refine cP h Q5v p2 fun v4 h=>?_;cases h;exact (.p _)
def J8 (N:Nat) (l:List Qk):Option Bool:=
 (W0 N l 22).bind fun v1=>
 (W0 N l 21).bind fun v3=>
 cond v1.2
 (some (!v3.2))
 (some false)
theorem Q6m {N} {l} {r} (h:J8 N l=some r):pU 86 [.slice 4 (Q8 Qk.cells l)] (.bool r):=by
 refine Q2 k86 ?_;unfold J8 at h;refine cP h Gd p2 fun v1 h=>?_;refine cP h Gd p2 fun v3 h=>?_;exact iB h
def Ja (_N:Nat) (n_0:Int):Option Int:=
 cond (Q4 .lss n_0 0)
 (some 0)
 (cond (Q4 .gtr n_0 268435455)
 (some 0)
 (cond (Q4 .lss n_0 128)
 (some 1)
 (cond (Q4 .lss n_0 16384)
 (some 2)
 (cond (Q4 .lss n_0 2097152)
 (some 3)
 (some 4)))))
theorem Q65 {N} {n_0} {r} (h:Ja N n_0=some r):pU 180 [.int .i64 n_0] (.int .i64 r):=by
 refine Q2 Z62 ?_;unfold Ja at h;rw [cX] at h;refine iL h fun h=>?_;refine iL h fun h=>?_;refine iL h fun h=>?_;refine iL h fun h=>?_;exact iB h
def Zc (N:Nat) (v1:Int):Nat→Int→Int→(List Int)→Option ((List UInt8)×Int)
 | 0,_,_,_=>none
 | n+1,n13,i14,l15=>
  cond (Q4 .lss i14 v1)
  (cond (Q4 .lss (wrap .i64 (i14+1)) v1)
  (cond (Nat.ble ((l15.length+1+4096) * 1) 17592186044416) (Zc N v1 n (wrap .i64 ((n13:Int).tdiv 128)) (wrap .i64 (i14+1)) (l15 ++ [(wrap .u8 ((wrap .u8 ((n13:Int).tmod 128))+128))])) none)
  (cond (Nat.ble ((l15.length+1+4096) * 1) 17592186044416) (Zc N v1 n (wrap .i64 ((n13:Int).tdiv 128)) (wrap .i64 (i14+1)) (l15 ++ [(wrap .u8 ((n13:Int).tmod 128))])) none))
  (some ((l15.map fun n=>UInt8.ofNat n.toNat),0))
def V8 (N:Nat) (n_0:Int):Option ((List UInt8)×Int):=
 (Ja N n_0).bind fun v1=>
 cond (Q4 .eql v1 0)
 (some ([],2))
 (Zc N v1 N n_0 0 [])
theorem Q5j {N} {n_0} {r} (h:V8 N n_0=some r):pU 142 [.int .i64 n_0] (.tuple [.str r.1,.int .i64 r.2]):=by
 refine Q2 Zfc ?_;unfold V8 at h;rw [cX] at h;refine cP h Q65 p1 fun v1 h=>?_;refine iL2 h fun h=>?_;refine lpA (τ:=Int×Int×(List Int)) (fun ⟨n13,i14,l15⟩=>(iI n13::a2 (.any::iI v1 :: .slice 1 0 0 l15.length::iI i14::a16 (a8 (a2 (.any :: [])))):List AV)) (fun ⟨_,_,l15⟩=>(.cells (Wo (cI .u8) l15) :: []:List AObj)) (fun n0 ⟨n13,i14,l15⟩=>Zc N v1 n0 n13 i14 l15) (n_0,0,[]) h fun n0 ⟨n13,i14,l15⟩ h=>?_
 first | rw [Zc] at h | simp only [Zc] at h
 rw [cX] at h;apply iU h<;>intro h
 ·apply iU h<;>intro h
  ·obtain ⟨hk18,h⟩:=Q59 h;refine Q3b (Xk (c:=(cI .u8)) (e:=1) (fun _=>rfl) sd hk18) ?_;refine Un (c:=(cI .u8)) [(wrap .u8 ((wrap .u8 ((n13:Int).tmod 128))+128))] rfl ?_;show Exists _;exact ⟨(n0,(wrap .i64 ((n13:Int).tdiv 128)),(wrap .i64 (i14+1)),(l15 ++ [(wrap .u8 ((wrap .u8 ((n13:Int).tmod 128))+128))])),h,Lf _,(rho [2]),Ya⟩
  obtain ⟨hk19,h⟩:=Q59 h;refine Q3b (Xk (c:=(cI .u8)) (e:=1) (fun _=>rfl) sd hk19) ?_;refine Un (c:=(cI .u8)) [(wrap .u8 ((n13:Int).tmod 128))] rfl ?_;show Exists _;exact ⟨(n0,(wrap .i64 ((n13:Int).tdiv 128)),(wrap .i64 (i14+1)),(l15 ++ [(wrap .u8 ((n13:Int).tmod 128))])),h,Lf _,(rho [2]),Ya⟩
 refine Qdz (l:=l15) (n:=l15.length) sd ?_;obtain rfl:=Qn h;exact u2
def Zi (N:Nat) (n_0:Int):Nat→Int→(List Int)→Option (List UInt8)
 | 0,_,_=>none
 | n+1,i11,l12=>
  cond (Q4 .geq i11 0)
  (cond (Q4 .lss i11 8)
  (cond (decide (0≤(wrap .u64 (wrap .i64 (8 * i11))))) (cond (Nat.ble ((l12.length+1+4096) * 1) 17592186044416) (Zi N n_0 n (wrap .i64 (i11 - 1)) (l12 ++ [(wrap .u8 (Qkl .u64 n_0 (wrap .u64 (wrap .i64 (8 * i11)))))])) none) none)
  (cond (Nat.ble ((l12.length+1+4096) * 1) 17592186044416) (Zi N n_0 n (wrap .i64 (i11 - 1)) (l12 ++ [0])) none))
  (some (l12.map fun n=>UInt8.ofNat n.toNat))
def W1 (N:Nat) (n_0:Int) (size:Int):Option (List UInt8):=
 Zi N n_0 N (wrap .i64 ((ifB (decide ((ifB (decide (16<size)) 16 size)>0)) (ifB (decide (16<size)) 16 size) 0) - 1)) []
theorem Uk {N} {n_0} {size} {r} (h:W1 N n_0 size=some r):pU 141 [.int .u64 n_0,.int .i64 size] (.str r):=by
 refine Q2 Zdp ?_;unfold W1 at h;refine lpA (τ:=Int×(List Int)) (fun ⟨i11,l12⟩=>(iW n_0::a4 (.slice 1 0 0 l12.length::iI i11::a16 (a4 (a2 (.any :: [])))):List AV)) (fun ⟨_,l12⟩=>(.cells (Wo (cI .u8) l12) :: []:List AObj)) (fun n0 ⟨i11,l12⟩=>Zi N n_0 n0 i11 l12) ((wrap .i64 ((ifB (decide ((ifB (decide (16<size)) 16 size)>0)) (ifB (decide (16<size)) 16 size) 0) - 1)),[]) h fun n0 ⟨i11,l12⟩ h=>?_
 first | rw [Zi] at h | simp only [Zi] at h
 rw [cX] at h;apply iU h<;>intro h
 ·apply iU h<;>intro h
  ·refine kU h fun h=>?_;obtain ⟨hk16,h⟩:=Q59 h;refine Q3b (Xk (c:=(cI .u8)) (e:=1) (fun _=>rfl) sd hk16) ?_;refine Un (c:=(cI .u8)) [(wrap .u8 (Qkl .u64 n_0 (wrap .u64 (wrap .i64 (8 * i11)))))] rfl ?_;show Exists _;exact ⟨(n0,(wrap .i64 (i11 - 1)),(l12 ++ [(wrap .u8 (Qkl .u64 n_0 (wrap .u64 (wrap .i64 (8 * i11)))))])),h,Lf _,(rho [2]),Ya⟩
  obtain ⟨hk17,h⟩:=Q59 h;refine Q3b (Xk (c:=(cI .u8)) (e:=1) (fun _=>rfl) sd hk17) ?_;refine Un (c:=(cI .u8)) [0] rfl ?_;show Exists _;exact ⟨(n0,(wrap .i64 (i11 - 1)),(l12 ++ [0])),h,Lf _,(rho [2]),Ya⟩
 refine Qdz (l:=l12) (n:=l12.length) sd ?_;cases h;exact (.p _)
def Xw (N:Nat) (s_0:List UInt8):Option ((List UInt8)×Int):=
 cond (Q4 .gtr (s_0.length:Int) 65535)
 (some ([],2))
 ((W1 N (wrap .u64 (s_0.length:Int)) 2).bind fun v2=>
 cond (Nat.ble (v2.length+s_0.length) 4611686018427387904) (some ((v2++s_0),0)) none)
theorem Q0m {N} {s_0} {r} (h:Xw N s_0=some r):pU 143 [.str s_0] (.tuple [.str r.1,.int .i64 r.2]):=by
 refine Q2 Z7g ?_;unfold Xw at h;rw [cX] at h;refine iL2 h fun h=>?_;refine cP h Uk p2 fun v2 h=>?_;refine kU h fun h=>?_;obtain rfl:=Qn h;exact u2
def Ve (N:Nat) (p:Qk):Option (List UInt8):=
 (Yg N p.ID).bind fun v1=>
 cond (Q4 .eql v1.shape 1)
 ((W1 N (wrap .u64 p.N') 1).bind fun v4=>
 some v4)
 (cond (Q4 .eql v1.shape 2)
 ((W1 N (wrap .u64 p.N') 2).bind fun v7=>
 some v7)
 (cond (Q4 .eql v1.shape 3)
 ((W1 N (wrap .u64 p.N') 4).bind fun v10=>
 some v10)
 (cond (Q4 .eql v1.shape 4)
 ((V8 N (wrap .i64 p.N')).bind fun v13=>
 some v13.1)
 ((Xw N p.Text).bind fun v15=>
 (Yg N p.ID).bind fun v17=>
 cond (Q4 .eql v17.shape 7)
 ((Xw N p.Value).bind fun v20=>
 cond (Nat.ble (v15.1.length+v20.1.length) 4611686018427387904) (some (v15.1++v20.1)) none)
 (some v15.1)))))
theorem Q5m {N} {p} {r} (h:Ve N p=some r):pU 112 [.agg (Qk.cells p)] (.str r):=by
 refine Q2 Zc0 ?_;unfold Ve at h;rw [cX] at h;refine cP h U3 p1 fun v1 h=>?_;apply iU h<;>intro h
 ·refine cP h Uk p2 fun v4 h=>?_;cases h;exact (.p _)
 apply iU h<;>intro h
 ·refine cP h Uk p2 fun v7 h=>?_;cases h;exact (.p _)
 apply iU h<;>intro h
 ·refine cP h Uk p2 fun v10 h=>?_;cases h;exact (.p _)
 apply iU h<;>intro h
 ·refine cP h Q5j p1 fun v13 h=>?_;cases h;exact (.p _)
 refine cP h Q0m p1 fun v15 h=>?_;refine cP h U3 p1 fun v17 h=>?_;refine iR h fun h=>?_;refine cP h Q0m p1 fun v20 h=>?_;refine kU h fun h=>?_;cases h;exact (.p _)
def Yw (N:Nat) (l:List Qk):Nat→(List UInt8)→Int→Option (List UInt8)
 | 0,_,_=>none
 | n+1,out21,i22=>
  cond (Q4 .lss i22 ((Q8 Qk.cells l).length:Int))
  ((idx l i22).bind fun y24=>
  cond (Nat.ble (out21.length + [UInt8.ofNat (wrap .u8 y24.ID).toNat].length) 4611686018427387904) ((idx l i22).bind fun y27=>
  (Ve N y27).bind fun v29=>
  cond (Nat.ble ((out21 ++ [UInt8.ofNat (wrap .u8 y24.ID).toNat]).length+v29.length) 4611686018427387904) (Yw N l n ((out21 ++ [UInt8.ofNat (wrap .u8 y24.ID).toNat])++v29) (wrap .i64 (i22+1))) none) none)
  (some out21)
def Vx (N:Nat) (l:List Qk):Option (List UInt8):=
 Yw N l N [] 0
theorem Q5u {N} {l} {r} (h:Vx N l=some r):pU 87 [.slice 4 (Q8 Qk.cells l)] (.str r):=by
 refine Q2 k87 ?_;unfold Vx at h;refine lpH (τ:=(List UInt8)×Int) (fun ⟨out21,i22⟩=>(.p (.slice 4 (Q8 Qk.cells l)) :: .any :: .any::iS out21::iI i22::a16 (a4 (a2 (.any :: []))):List AV)) (fun n0 ⟨out21,i22⟩=>Yw N l n0 out21 i22) ([],0) h fun n0 ⟨out21,i22⟩ h=>?_
 first | rw [Yw] at h | simp only [Yw] at h
 rw [cX] at h;refine iR h fun h=>?_;refine Qp ?_;refine xR h fun y24 h=>?_;refine kU h fun h=>?_;refine xR h fun y27 h=>?_;refine cD h Q5m (.cons q4 .nil) fun v29 h=>?_;refine kU h fun h=>?_;show Exists _;exact ⟨(n0,((out21 ++ [UInt8.ofNat (wrap .u8 y24.ID).toNat])++v29),(wrap .i64 (i22+1))),h,Lf _,(fun i=>i),Ya⟩
def Yn (N:Nat) (kind:Int) (l:List Qk):Nat→Int→Option Int
 | 0,_=>none
 | n+1,i28=>
  cond (Q4 .lss i28 ((Q8 Qk.cells l).length:Int))
  ((idx l i28).bind fun y30=>
  (Vf N kind y30).bind fun v32=>
  cond (Q4 .neq v32 0)
  (some v32)
  (cond (decide (0≤i28)) (cond (Nat.ble 0 i28.toNat&&Nat.ble i28.toNat (Q8 Qk.cells l).length) ((idx l i28).bind fun y37=>
  (Vc N kind (l.take i28.toNat) y37.ID).bind fun v39=>
  cond v39
  (some 9)
  (Yn N kind l n (wrap .i64 (i28+1)))) none) none))
  ((J8 N l).bind fun v42=>
  cond v42
  (some 9)
  ((Vx N l).bind fun v45=>
  cond (Q4 .gtr (v45.length:Int) 268435455)
  (some 4)
  (some 0)))
def Yq (N:Nat) (kind:Int) (l:List Qk):Option Int:=
 cond (Q4 .gtr ((Q8 Qk.cells l).length:Int) 1000)
 (some 4)
 (Yn N kind l N 0)
theorem Q5q {N} {kind} {l} {r} (h:Yq N kind l=some r):pU 41 [.int .i64 kind,.slice 4 (Q8 Qk.cells l)] (.int .i64 r):=by
 refine Q2 k41 ?_;unfold Yq at h;rw [cX] at h;refine iL h fun h=>?_;refine lpH (τ:=Int) (fun i28=>(iI kind :: .p (.slice 4 (Q8 Qk.cells l))::a2 (.any::iI i28::a16 (a16 (a2 (.any :: [])))):List AV)) (fun n0 i28=>Yn N kind l n0 i28) (0) h fun n0 i28 h=>?_
 first | rw [Yn] at h | simp only [Yn] at h
 rw [cX] at h;apply iU h<;>intro h
 ·refine xR h fun y30 h=>?_;refine cP h Q53 (.cons (.p _) (.cons q4 .nil)) fun v32 h=>?_;refine iL h fun h=>?_;refine Qp ?_;refine kU h fun h=>?_;refine kU h fun h=>?_;refine xR h fun y37 h=>?_;refine cD h Q5p (.cons (.p _) (.cons (Qu9 (c:=Qk.cells)) p1)) fun v39 h=>?_;refine iL h fun h=>?_;show Exists _;exact ⟨(n0,(wrap .i64 (i28+1))),h,Lf _,(fun i=>i),Ya⟩
 refine cP h Q6m p1 fun v42 h=>?_;refine iL h fun h=>?_;refine cP h Q5u p1 fun v45 h=>?_;exact iB h
def Yd (N:Nat) (s_0:List UInt8):Nat→Int→Int→Option Int
 | 0,_,_=>none
 | n+1,n9,i10=>
  cond (Q4 .lss i10 (s_0.length:Int))
  ((idx s_0 i10).bind fun b12=>
  Yd N s_0 n (orI .u64 (Qi7 .u64 n9 8) (wrap .u64 (b12.toNat:Int))) (wrap .i64 (i10+1)))
  (some n9)
def Wx (N:Nat) (s_0:List UInt8):Option Int:=
 Yd N s_0 N 0 0
theorem Q4v {N} {s_0} {r} (h:Wx N s_0=some r):pU 105 [.str s_0] (.int .u64 r):=by
 refine Q2 Zd4 ?_;unfold Wx at h;refine lpH (τ:=Int×Int) (fun ⟨n9,i10⟩=>(iS s_0 :: .any :: .any::iW n9::iI i10::a8 (a4 (a2 ([]))):List AV)) (fun n0 ⟨n9,i10⟩=>Yd N s_0 n0 n9 i10) (0,0) h fun n0 ⟨n9,i10⟩ h=>?_
 first | rw [Yd] at h | simp only [Yd] at h
 rw [cX] at h;refine iR h fun h=>?_;refine xB h fun b12 h=>?_;show Exists _;exact ⟨(n0,(orI .u64 (Qi7 .u64 n9 8) (wrap .u64 (b12.toNat:Int))),(wrap .i64 (i10+1))),h,Lf _,(fun i=>i),Ya⟩
def V9 (N:Nat) (name:List UInt8):Option (Int×Bool):=
 cond (Q4 .neq (name.length:Int) 2)
 (some (0,false))
 ((Yf N name).bind fun v2=>
 cond (!v2)
 (some (0,false))
 ((Wx N name).bind fun v5=>
 some ((wrap .i64 v5),true)))
theorem Q54 {N} {name} {r} (h:V9 N name=some r):pU 82 [.str name] (.tuple [.int .i64 r.1,.bool r.2]):=by
 refine Q2 k82 ?_;unfold V9 at h;rw [cX] at h;refine iL2 h fun h=>?_;refine cP h We p1 fun v2 h=>?_;refine iL2 h fun h=>?_;refine cP h Q4v p1 fun v5 h=>?_;obtain rfl:=Qn h;exact u2
def Z12:List PV := [.int .i64 23,.bool false,.int .i64 0,.bool false,.bool false,.bool false,.int .i64 0,.int .i64 0,.int .i64 0,.int .i64 0,.bool false,.int .i64 0,.int .i64 0,.int .i64 0,.str [],.str []]
def Gz (_N:Nat) (m:U2):Option (List UInt8×Int):=cond (Q8x (U2.cells m) Z12) (some ([2,23],0)) none
theorem Q5t {N m r} (h:Gz N m=some r):pU 179 [.agg (U2.cells m)] (.tuple [.str r.1,.int .i64 r.2]):=by
 unfold Gz at h
 cases hq:Q8x (U2.cells m) Z12 with
 | false=>rw [hq] at h;cases h
 | true=>rw [hq] at h;cases h;rw [Q3h _ _ hq];exact Q4i Qjr (N:=4000) (d:=60) (by kernel_rfl)
def Ym (N:Nat) (d:Qq):Nat→(List UInt8)→Int→Option (List UInt8)
 | 0,_,_=>none
 | n+1,out13,i14=>
  cond (Q4 .lss i14 ((Q8 Vd.cells d.Hops).length:Int))
  ((idx d.Hops i14).bind fun y16=>
  cond (Nat.ble (out13.length + [UInt8.ofNat (wrap .u8 (wrap .i64 ((y16.Node.length:Int)+3))).toNat,UInt8.ofNat (Int.toNat 254),UInt8.ofNat (wrap .u8 y16.Radius).toNat].length) 4611686018427387904) (cond (Nat.ble ((out13 ++ [UInt8.ofNat (wrap .u8 (wrap .i64 ((y16.Node.length:Int)+3))).toNat,UInt8.ofNat (Int.toNat 254),UInt8.ofNat (wrap .u8 y16.Radius).toNat]).length+y16.Node.length) 4611686018427387904) (Ym N d n ((out13 ++ [UInt8.ofNat (wrap .u8 (wrap .i64 ((y16.Node.length:Int)+3))).toNat,UInt8.ofNat (Int.toNat 254),UInt8.ofNat (wrap .u8 y16.Radius).toNat])++y16.Node) (wrap .i64 (i14+1))) none) none)
  ((Gz N d.Msg).bind fun v20=>
  cond (Nat.ble (out13.length+v20.1.length) 4611686018427387904) (some (out13++v20.1)) none)
def Vb (N:Nat) (d:Qq):Option (List UInt8):=
 Ym N d N [] 0
theorem Q5g {N} {d} {r} (h:Vb N d=some r):pU 136 [.agg (Qq.cells d)] (.str r):=by
 refine Q2 Z7z ?_;unfold Vb at h;refine lpH (τ:=(List UInt8)×Int) (fun ⟨out13,i14⟩=>(.any :: .ptr 0 0 :: .any::iS out13::iI i14::a16 (a16 (a4 (a2 (.any :: [])))):List AV)) (fun n0 ⟨out13,i14⟩=>Ym N d n0 out13 i14) ([],0) h fun n0 ⟨out13,i14⟩ h=>?_
 first | rw [Ym] at h | simp only [Ym] at h
 rw [cX] at h;apply iU h<;>intro h
 ·refine xR h fun y16 h=>?_;refine kU h fun h=>?_;refine kU h fun h=>?_;show Exists _;exact ⟨(n0,((out13 ++ [UInt8.ofNat (wrap .u8 (wrap .i64 ((y16.Node.length:Int)+3))).toNat,UInt8.ofNat (Int.toNat 254),UInt8.ofNat (wrap .u8 y16.Radius).toNat])++y16.Node),(wrap .i64 (i14+1))),h,Lf _,(fun i=>i),Ya⟩
 refine cP h Q5t (.cons (Ar (f8_ (f2_ (.cons (.p _) p5)))) .nil) fun v20 h=>?_;refine kU h fun h=>?_;cases h;exact (.p _)
def Gn (_N:Nat) (l:Xm):Option Bool:=
 cond (Q4 .geq l.MaxPacket 16)
 (cond (Q4 .leq l.MaxPacket 1048576)
 (cond (Q4 .geq l.MaxDepth 0)
 (some (Q4 .leq l.MaxDepth 32))
 (some false))
 (some false))
 (some false)
theorem Q5s {N} {l} {r} (h:Gn N l=some r):pU 133 [.agg (Xm.cells l)] (.bool r):=by
 refine Q2 Z7f ?_;unfold Gn at h;rw [cX] at h;refine iR h fun h=>?_;refine iR h fun h=>?_;exact iB h
def Uc (_N:Nat) (h_0:Vd):Option Bool:=
 cond (Q4 .geq h_0.Radius 0)
 (cond (Q4 .leq h_0.Radius 3)
 (cond (Q4 .geq (h_0.Node.length:Int) 1)
 (some (Q4 .leq (h_0.Node.length:Int) 32))
 (some false))
 (some false))
 (some false)
theorem Q6v {N} {h_0} {r} (h:Uc N h_0=some r):pU 134 [.agg (Vd.cells h_0)] (.bool r):=by
 refine Q2 Z3r ?_;unfold Uc at h;rw [cX] at h;refine iR h fun h=>?_;refine iR h fun h=>?_;exact iB h
def Gq (_N:Nat) (m:U2):Option Int:=cond (Q8x (U2.cells m) [.int .i64 23,.bool false,.int .i64 0,.bool false,.bool false,.bool false,.int .i64 0,.int .i64 0,.int .i64 0,.int .i64 0,.bool false,.int .i64 0,.int .i64 0,.int .i64 0,.str [],.str []]) (some 0) none
theorem Q5l {N m r} (h:Gq N m=some r):pU 135 [.agg (U2.cells m)] (.int .i64 r):=by
 unfold Gq at h
 cases hq:Q8x (U2.cells m) [.int .i64 23,.bool false,.int .i64 0,.bool false,.bool false,.bool false,.int .i64 0,.int .i64 0,.int .i64 0,.int .i64 0,.bool false,.int .i64 0,.int .i64 0,.int .i64 0,.str [],.str []] with
 | false=>rw [hq] at h;cases h
 | true=>rw [hq] at h;cases h;rw [Q3h _ _ hq];exact Q4i Qjr (N:=4000) (d:=60) (by kernel_rfl)
def Yh (N:Nat) (d:Qq) (l:Xm):Nat→Int→Option Int
 | 0,_=>none
 | n+1,i18=>
  cond (Q4 .lss i18 ((Q8 Vd.cells d.Hops).length:Int))
  ((idx d.Hops i18).bind fun y20=>
  (Uc N y20).bind fun v22=>
  cond (!v22)
  (some 2)
  (Yh N d l n (wrap .i64 (i18+1))))
  ((Gq N d.Msg).bind fun v25=>
  cond (Q4 .eql v25 0)
  ((Vb N d).bind fun v28=>
  cond (Q4 .gtr (v28.length:Int) l.MaxPacket)
  (some 4)
  (some v25))
  (some v25))
def Vg (N:Nat) (d:Qq) (l:Xm):Option Int:=
 (Gn N l).bind fun v1=>
 cond (!v1)
 (some 2)
 (cond (Q4 .gtr ((Q8 Vd.cells d.Hops).length:Int) 4)
 (some 12)
 (Yh N d l N 0))
theorem Q5f {N} {d} {l} {r} (h:Vg N d l=some r):pU 106 [.agg (Qq.cells d),.agg (Xm.cells l)] (.int .i64 r):=by
 refine Q2 Zey ?_;unfold Vg at h;rw [cX] at h;refine cP h Q5s (.cons q2 .nil) fun v1 h=>?_;refine iL h fun h=>?_;refine iL h fun h=>?_;refine lpH (τ:=Int) (fun i18=>(.any :: .any :: .ptr 0 0 :: .ptr 1 0 :: .any::iI i18::a16 (a16 (a4 ([]))):List AV)) (fun n0 i18=>Yh N d l n0 i18) (0) h fun n0 i18 h=>?_
 first | rw [Yh] at h | simp only [Yh] at h
 rw [cX] at h;apply iU h<;>intro h
 ·refine xR h fun y20 h=>?_;refine cP h Q6v (.cons q2 .nil) fun v22 h=>?_;refine iL h fun h=>?_;show Exists _;exact ⟨(n0,(wrap .i64 (i18+1))),h,Lf _,(fun i=>i),Ya⟩
 refine cP h Q5l (.cons (Ar (f8_ (f2_ (.cons (.p _) p5)))) .nil) fun v25 h=>?_;refine Qp ?_;refine iR h fun h=>?_;refine cD h Q5g (.cons (Ar (f8_ (f2_ (f1_ (.cons (.p _) p5))))) .nil) fun v28 h=>?_;exact iB h
def Jf (_N:Nat):Option (Xm):=
 some (⟨1048576,32⟩:Xm)
theorem Q45 {N} {r} (h:Jf N=some r):pU 107 [] (.agg (Xm.cells r)):=by
 refine Q2 Zcc ?_;unfold Jf at h;obtain rfl:=Qn h;exact q2
def Vw (N:Nat) (l:List Vd):Option Bool:=
 (Jf N).bind fun v1=>
 (Vg N (⟨l,(⟨23,(⟨false,0,false,false,false,0⟩:Qz),0,0,0,false,0,0,0,[],[]⟩:U2)⟩:Qq) v1).bind fun v3=>
 some (Q4 .eql v3 0)
theorem Q6l {N} {l} {r} (h:Vw N l=some r):pU 83 [.slice 2 (Q8 Vd.cells l)] (.bool r):=by
 refine Q2 k83 ?_;unfold Vw at h;rw [cX] at h;refine Qp ?_;refine cD h Q45 p0 fun v1 h=>?_;refine cD h Q5f (.cons (Ar (f8_ (f2_ (f1_ (.cons (.p _) p5))))) p1) fun v3 h=>?_;cases h;exact (.p _)
def Wn (N:Nat) (e:Qf):Option Bool:=
 cond (Q4 .neq e.Proto 3)
 (cond (Q4 .eql e.Type' 0)
 (some (Q4 .eql ((Q8 Vd.cells e.Hops).length:Int) 0))
 (some false))
 ((V9 N e.Topic).bind fun v3=>
 cond (Q4 .geq e.Type' 0)
 (cond (Q4 .leq e.Type' 2)
 ((Vw N e.Hops).bind fun v7=>
 cond v7
 (cond (Q4 .neq e.Type' 2)
 (some true)
 (some v3.2))
 (some false))
 (some false))
 (some false))
theorem Q7f {N} {e} {r} (h:Wn N e=some r):pU 39 [.agg (Qf.cells e)] (.bool r):=by
 refine Q2 k39 ?_;unfold Wn at h;rw [cX] at h;apply iU h<;>intro h
 ·exact iB h
 refine cP h Q54 p1 fun v3 h=>?_;refine iR h fun h=>?_;refine iR h fun h=>?_;refine cP h Q6l p1 fun v7 h=>?_;refine iR h fun h=>?_;exact iB h
def Zf (N:Nat) (e:Qf) (s66:Bool):Option Int:=
 cond s66
 (some 2)
 ((Yq N 3 e.Props).bind fun v76=>
 cond (Q4 .neq v76 0)
 (some 9)
 (some 0))
def Qm (N:Nat) (e:Qf) (s44:Bool):Option Int:=
 cond s44
 (some 2)
 (cond (Q4 .lss e.Channel 0)
 (Zf N e true)
 (cond (Q4 .gtr e.Channel 65535)
 (Zf N e true)
 (cond (Q4 .neq e.Channel 0)
 (cond (Q4 .neq e.Proto 4)
 (Zf N e true)
 ((X5 N e).bind fun v71=>
 Zf N e (!v71)))
 ((X5 N e).bind fun v73=>
 Zf N e (!v73)))))
def Yr (N:Nat) (k4:Bool→Option Int) (e:Qf) (s52:Bool):Option Int:=
 cond s52
 (k4 s52)
 ((Wn N e).bind fun v55=>
 k4 (!v55))
def Y8 (N:Nat) (k4:Bool→Option Int) (e:Qf) (s47:Bool):Option Int:=
 cond s47
 (k4 s47)
 (cond (Q4 .gtr ((Q8 Qk.cells e.Props).length:Int) 0)
 (Yr N k4 e (Q4 .neq e.Proto 2))
 (Yr N k4 e false))
def Zg (N:Nat) (e:Qf) (acked20:Bool) (s26:Bool):Option Int:=
 cond s26
 (some 2)
 (cond e.Dup
 (cond (!acked20)
 (Y8 N (Qm N e) e (Q4 .neq e.Proto 3))
 (Y8 N (Qm N e) e false))
 (Y8 N (Qm N e) e false))
def Zr (N:Nat) (e:Qf) (least17:Int) (acked20:Bool):Option Int:=
 cond (Q4 .lss e.QoS least17)
 (Zg N e acked20 true)
 (cond (Q4 .gtr e.QoS 2)
 (Zg N e acked20 true)
 (cond (Q4 .lss e.ID 0)
 (Zg N e acked20 true)
 (cond (Q4 .gtr e.ID 65535)
 (Zg N e acked20 true)
 (Zg N e acked20 (!((Q4 .neq e.ID 0) == acked20))))))
def Yt (N:Nat) (e:Qf) (least17:Int):Option Int:=
 cond (Q4 .eql e.QoS 1)
 (Zr N e least17 true)
 (Zr N e least17 (Q4 .eql e.QoS 2))
def Zs (N:Nat) (e:Qf) (s9:Bool):Option Int:=
 cond s9
 (some 2)
 ((Yf N e.Topic).bind fun v13=>
 cond (!v13)
 (some 10)
 (cond (Q4 .eql e.Proto 3)
 (Yt N e (-1))
 (Yt N e 0)))
def Za (N:Nat) (e:Qf):Option Int:=
 cond (Q4 .lss e.Proto 1)
 (Zs N e true)
 (cond (Q4 .gtr e.Proto 4)
 (Zs N e true)
 (Zs N e (Q4 .neq e.Kind 1)))
theorem Q0j {N} {e} {r} (h:Za N e=some r):pU 15 [.agg (Qf.cells e)] (.int .i64 r):=by
 refine Q2 k15 ?_;unfold Za at h;rw [cX] at h;refine Q4e ?_;refine Vy (σ:=Bool) (fun s9=>(.any :: .ptr 0 0::a8 (a4 (a2 (.any :: .p (.bool s9)::a16 (a16 (a16 (a16 (a16 (a8 (a4 (a2 (.any :: []))))))))))):List AV)) (fun _=>(.cells (Q1t e ([])) :: []:List AObj)) (fun s9=>Zs N e s9=some r) (fun _ _=>Li _) ?_ ?_
 ·apply iU h<;>intro h
  ·show Exists _;exact ⟨(true),h,(fun i=>i),Ya⟩
  apply iU h<;>intro h
  ·show Exists _;exact ⟨(true),h,(fun i=>i),Ya⟩
  show Exists _;exact ⟨((Qi3 .neq e.Kind 1)),h,(fun i=>i),Ya⟩
 rintro s9 h
 unfold Zs at h;rw [cX] at h;refine iL h fun h=>?_;refine cP h We p1 fun v13 h=>?_;refine iL h fun h=>?_;refine Vy (σ:=Int) (fun least17=>(.any :: .ptr 0 0 :: .any::iI least17::a16 (a16 (a16 (a16 (a16 (a16 (a8 (a4 (.any :: [])))))))):List AV)) (fun _=>(.cells (Q1t e ([])) :: []:List AObj)) (fun least17=>Yt N e least17=some r) (fun _ _=>Li _) ?_ ?_
 ·apply iU h<;>intro h
  ·show Exists _;exact ⟨((-1)),h,(fun i=>i),Ya⟩
  show Exists _;exact ⟨(0),h,(fun i=>i),Ya⟩
 rintro least17 h
 unfold Yt at h;rw [cX] at h;refine Vy (σ:=Bool) (fun acked20=>(.any :: .ptr 0 0 :: .any::iI least17 :: .p (.bool acked20)::a16 (a16 (a16 (a16 (a16 (a16 (a8 (a4 ([])))))))):List AV)) (fun _=>(.cells (Q1t e ([])) :: []:List AObj)) (fun acked20=>Zr N e least17 acked20=some r) (fun _ _=>Li _) ?_ ?_
 ·apply iU h<;>intro h
  ·show Exists _;exact ⟨(true),h,(fun i=>i),Ya⟩
  show Exists _;exact ⟨((Qi3 .eql e.QoS 2)),h,(fun i=>i),Ya⟩
 rintro acked20 h
 unfold Zr at h;rw [cX] at h;refine Vy (σ:=Bool) (fun s26=>(.any :: .ptr 0 0 :: .any :: .any :: .p (.bool acked20)::a16 (a8 (a4 (.p (.bool s26)::a16 (a16 (a16 (a16 (a8 (a4 (a2 (.any :: [])))))))))):List AV)) (fun _=>(.cells (Q1t e ([])) :: []:List AObj)) (fun s26=>Zg N e acked20 s26=some r) (fun _ _=>Li _) ?_ ?_
 ·apply iU h<;>intro h
  ·show Exists _;exact ⟨(true),h,(fun i=>i),Ya⟩
  apply iU h<;>intro h
  ·show Exists _;exact ⟨(true),h,(fun i=>i),Ya⟩
  apply iU h<;>intro h
  ·show Exists _;exact ⟨(true),h,(fun i=>i),Ya⟩
  apply iU h<;>intro h
  ·show Exists _;exact ⟨(true),h,(fun i=>i),Ya⟩
  show Exists _;exact ⟨((!((Qi3 .neq e.ID 0) == acked20))),h,(fun i=>i),Ya⟩
 rintro s26 h
 unfold Zg at h;rw [cX] at h;refine iL h fun h=>?_;refine Vy (σ:=Bool) (fun s44=>(.any :: .ptr 0 0::a16 (a16 (a16 (a8 (a2 (.p (.bool s44)::a16 (a16 (a16 (a4 ([]))))))))):List AV)) (fun _=>(.cells (Q1t e ([])) :: []:List AObj)) (fun s44=>Qm N e s44=some r) (fun _ _=>Li _) ?_ ?_
 ·refine Vy (σ:=Bool) (fun s47=>(.any :: .ptr 0 0::a16 (a16 (a16 (a8 (a2 (.p (.bool s47)::a16 (a16 (a16 (a4 ([]))))))))):List AV)) (fun _=>(.cells (Q1t e ([])) :: []:List AObj)) (fun s47=>Y8 N (Qm N e) e s47=some r) (fun _ _=>Li _) ?_ ?_
  ·apply iU h<;>intro h
   ·apply iU h<;>intro h
    ·show Exists _;exact ⟨((Qi3 .neq e.Proto 3)),h,(fun i=>i),Ya⟩
    show Exists _;exact ⟨(false),h,(fun i=>i),Ya⟩
   show Exists _;exact ⟨(false),h,(fun i=>i),Ya⟩
  rintro s47 h
  unfold Y8 at h;rw [cX] at h;apply iU h<;>intro h
  ·show Exists _;exact ⟨(s47),h,(fun i=>i),Ya⟩
  refine Vy (σ:=Bool) (fun s52=>(.any :: .ptr 0 0::a16 (a16 (a16 (a8 (a2 (.p (.bool s52)::a16 (a16 (a16 (a4 ([]))))))))):List AV)) (fun _=>(.cells (Q1t e ([])) :: []:List AObj)) (fun s52=>Yr N (Qm N e) e s52=some r) (fun _ _=>Li _) ?_ ?_
  ·apply iU h<;>intro h
   ·show Exists _;exact ⟨((Qi3 .neq e.Proto 2)),h,(fun i=>i),Ya⟩
   show Exists _;exact ⟨(false),h,(fun i=>i),Ya⟩
  rintro s52 h
  unfold Yr at h;apply iU h<;>intro h
  ·show Exists _;exact ⟨(s52),h,(fun i=>i),Ya⟩
  refine cP h Q7f (.cons (Ar (Xd (Xd (Xd (f2_ (f1_ (.cons (.p _) p5))))))) .nil) fun v55 h=>?_;show Exists _;exact ⟨((!v55)),h,(fun i=>i),Ya⟩
 rintro s44 h
 unfold Qm at h;rw [cX] at h;refine iL h fun h=>?_;refine Vy (σ:=Bool) (fun s66=>(.any :: .ptr 0 0::a16 (a16 (a16 (a16 (a16 (a2 (.p (.bool s66)::a16 (a8 (a4 ([]))))))))):List AV)) (fun _=>(.cells (Q1t e ([])) :: []:List AObj)) (fun s66=>Zf N e s66=some r) (fun _ _=>Li _) ?_ ?_
 ·apply iU h<;>intro h
  ·show Exists _;exact ⟨(true),h,(fun i=>i),Ya⟩
  apply iU h<;>intro h
  ·show Exists _;exact ⟨(true),h,(fun i=>i),Ya⟩
  apply iU h<;>intro h
  ·apply iU h<;>intro h
   ·show Exists _;exact ⟨(true),h,(fun i=>i),Ya⟩
   refine cP h Q1b (.cons (Ar (Xd (Xd (Xd (f2_ (f1_ (.cons (.p _) p5))))))) .nil) fun v71 h=>?_;show Exists _;exact ⟨((!v71)),h,(fun i=>i),Ya⟩
  refine cP h Q1b (.cons (Ar (Xd (Xd (Xd (f2_ (f1_ (.cons (.p _) p5))))))) .nil) fun v73 h=>?_;show Exists _;exact ⟨((!v73)),h,(fun i=>i),Ya⟩
 rintro s66 h
 unfold Zf at h;rw [cX] at h;refine iL h fun h=>?_;refine cP h Q5q p2 fun v76 h=>?_;exact iB h
def Vk (_N:Nat) (n_0:Int) (m:Int):Option Int:=
 cond (Q4 .lss m 1)
 (some 0)
 (cond (!((m:Int) == 0)) (cond (Q4 .lss ((n_0:Int).tmod m) 0)
 (some (wrap .i64 (((n_0:Int).tmod m)+m)))
 (some ((n_0:Int).tmod m))) none)
theorem Q7a {N} {n_0} {m} {r} (h:Vk N n_0 m=some r):pU 16 [.int .i64 n_0,.int .i64 m] (.int .i64 r):=by
 refine Q2 k16 ?_;unfold Vk at h;rw [cX] at h;refine iL h fun h=>?_;refine kU h fun h=>?_;exact iB h
def Zq (N:Nat) (t:List Qe) (client:List UInt8) (e:Qf) (proto:Int):Nat→Int→(List Q1)→Reg→Option Bool
 | 0,_,_,_=>none
 | n+1,i98,c99,R100=>
  cond (Q4 .lss i98 ((Q8 Qe.cells t).length:Int))
  ((idx t i98).bind fun y102=>
  cond (Q4 .eql y102.ID 0)
  ((idx t i98).bind fun y109=>
  (idx t i98).bind fun y111=>
  (Q0q N R100 y109.Client y111.Name).bind fun v113=>
  (idx t i98).bind fun y115=>
  (idx t i98).bind fun y117=>
  (Zo N (⟨c99⟩:Q3) y115.Client y117.Name).bind fun v119=>
  Zq N t client e proto n (wrap .i64 (i98+1)) v119.2.L v113.2)
  ((idx t i98).bind fun y127=>
  (idx t i98).bind fun y129=>
  (idx t i98).bind fun y131=>
  (Gu N R100 y127.Client y129.Name y131.ID).bind fun v133=>
  (idx t i98).bind fun y135=>
  (idx t i98).bind fun y137=>
  (idx t i98).bind fun y139=>
  (Zk N (⟨c99⟩:Q3) y135.Client y137.Name y139.ID).bind fun v141=>
  Zq N t client e proto n (wrap .i64 (i98+1)) v141.2.L v133.2))
  ((Vk N proto 4).bind fun v143=>
  (Q0e N R100 client e (wrap .i64 (1+v143))).bind fun v145=>
  (Za N e).bind fun v147=>
  cond (Q4 .neq v147 0)
  (some (Q4 .eql v145.1.2 v147))
  (cond (Q4 .neq v145.1.2 0)
  (cond (Q4 .eql v145.1.2 15)
  (some (Q4 .neq (wrap .i64 (1+v143)) e.Proto))
  (some false))
  (cond (Q4 .neq v145.1.1.Proto (wrap .i64 (1+v143)))
  (some false)
  (cond (G9 .neq v145.1.1.Topic e.Topic)
  (some false)
  (cond (G9 .neq v145.1.1.Payload e.Payload)
  (some false)
  (cond (Q4 .neq v145.1.1.QoS e.QoS)
  (some false)
  (cond (!(v145.1.1.Retain == e.Retain))
  (some false)
  (cond (Q4 .neq v145.1.1.ID e.ID)
  (some false)
  ((Za N v145.1.1).bind fun v158=>
  cond (Q4 .neq v158 0)
  (some false)
  (cond (Q4 .eql (wrap .i64 (1+v143)) e.Proto)
  ((X3 N v145.1.1 e).bind fun v162=>
  some v162)
  ((Q0e N v145.2 client v145.1.1 e.Proto).bind fun v164=>
  cond (Q4 .neq v164.1.2 0)
  (cond (Q4 .eql v164.1.2 15)
  (some (Q4 .eql e.Proto 3))
  (some false))
  (cond (G9 .eql v164.1.1.Topic e.Topic)
  (cond (G9 .eql v164.1.1.Payload e.Payload)
  (cond (Q4 .eql v164.1.1.QoS e.QoS)
  (cond (v164.1.1.Retain == e.Retain)
  (cond e.Dup
  (some (v164.1.1.Dup == (Q4 .gtr e.QoS 0)))
  (some (v164.1.1.Dup == false)))
  (some false))
  (some false))
  (some false))
  (some false)))))))))))))
def Xr (N:Nat) (t:List Qe) (client:List UInt8) (e:Qf) (proto:Int):Option Bool:=
 (Q2w N).bind fun v1=>
 cond (!v1)
 (some false)
 ((J0 N t).bind fun v4=>
 cond (!v4)
 (some true)
 (cond (Q4 .gtr (client.length:Int) 100)
 (some true)
 ((Vs N e).bind fun v8=>
 cond (!v8)
 (some true)
 (Zq N t client e proto N 0 [] []))))
theorem Q33 {N} {t} {client} {e} {proto} {r} (h:Xr N t client e proto=some r):pU 5 [.slice 3 (Q8 Qe.cells t),.str client,.agg (Qf.cells e),.int .i64 proto] (.bool r):=by
 refine Q2 k5 ?_;unfold Xr at h;rw [cX] at h;refine cP h Q56 p0 fun v1 h=>?_;refine iL h fun h=>?_;refine cP h Q51 p1 fun v4 h=>?_;refine iL h fun h=>?_;refine iL h fun h=>?_;refine cP h Q46 (.cons (Ar (Xd (Xd (Xd (f2_ (f1_ (.cons (.p _) p5))))))) .nil) fun v8 h=>?_;refine iL h fun h=>?_;refine Qa k9 ?_;refine Qua Qw8 1 rfl ?_;refine Qa k24 ?_;refine lpC (τ:=Int×(List Q1)×Reg) (fun ⟨i98,_,_⟩=>(.p (.slice 3 (Q8 Qe.cells t))::a2 (.any :: .ptr 1 0 :: .ptr 3 0::iI i98::a16 (a16 (a16 (a16 (a8 (a2 ([]))))))):List AV)) (fun ⟨_,c99,R100⟩=>(.cells (Q1t e ([])) :: .dead :: .dead :: .cells (.p (.slice 2 (Q8 Q1.cells c99)) :: []) :: .ext R100 1 :: []:List AObj)) (fun n0 ⟨i98,c99,R100⟩=>Zq N t client e proto n0 i98 c99 R100) (0,[],[]) h (rho [0,1,2,3,2]) ⟨(rE rfl <| rW <| rA <| rE rfl <| rE rfl <| rE rfl <| rX <| rX <| rX <| rX <| rX <| rX <| rX <| rX <| rX <| rW <| rN),(hE rfl <| hD <| hD <| hC rfl (rF (.nil _) <| rN) <| hE rfl <| hN),rfl,rfl,(roE rfl <| roE rfl <| roE rfl <| roE rfl <| roE rfl <| roN)⟩ fun n0 ⟨i98,c99,R100⟩ h=>?_
 first | rw [Zq] at h | simp only [Zq] at h
 rw [cX,cY] at h;apply iU h<;>intro h
 ·refine xR h fun y102 h=>?_;apply iU h<;>intro h
  ·refine G8 11 rfl rfl ?_;refine xR h fun y109 h=>?_;refine xR h fun y111 h=>?_;refine cRg h Qb2 (b:=4) rfl p2 fun v113 h=>?_;refine Qp ?_;refine xR h fun y115 h=>?_;refine xR h fun y117 h=>?_;refine dM h Q0n rfl p2 fun v119 h=>?_;show Exists _;exact ⟨(n0,(wrap .i64 (i98+1)),v119.2.L,v113.2),h,Lf _,(rho [0,1,2,3,5]),Ya⟩
  refine G8 16 rfl rfl ?_;refine xR h fun y127 h=>?_;refine xR h fun y129 h=>?_;refine xR h fun y131 h=>?_;refine cRg h Q9j (b:=4) rfl p3 fun v133 h=>?_;refine Qp ?_;refine xR h fun y135 h=>?_;refine xR h fun y137 h=>?_;refine xR h fun y139 h=>?_;refine dM h Q0k rfl p3 fun v141 h=>?_;show Exists _;exact ⟨(n0,(wrap .i64 (i98+1)),v141.2.L,v133.2),h,Lf _,(rho [0,1,2,3,5]),Ya⟩
 refine cP h Q7a p2 fun v143 h=>?_;refine cRg h Qae (b:=4) rfl (.cons (.p _) (.cons (Ar (Xd (Xd (Xd (f2_ (f1_ (.cons (.p _) p5))))))) p1)) fun v145 h=>?_;refine cP h Q0j (.cons (Ar (Xd (Xd (Xd (f2_ (f1_ (.cons (.p _) p5))))))) .nil) fun v147 h=>?_;refine iL h fun h=>?_;apply iU h<;>intro h
 ·exact iB h
 refine iL h fun h=>?_;refine iL h fun h=>?_;refine iL h fun h=>?_;refine iL h fun h=>?_;refine iL h fun h=>?_;refine iL h fun h=>?_;refine cP h Q0j (.cons (Ar (Xd (Xd (Xd (f2_ (f1_ (.cons (.p _) p5))))))) .nil) fun v158 h=>?_;refine iL h fun h=>?_;apply iU h<;>intro h
 ·refine cP h Q6e (.cons (Ar (Xd (Xd (Xd (f2_ (f1_ (.cons (.p _) p5))))))) (.cons (Ar (Xd (Xd (Xd (f2_ (f1_ (.cons (.p _) p5))))))) .nil)) fun v162 h=>?_;cases h;exact (.p _)
 refine cRg h Qae (b:=5) rfl (.cons (.p _) (.cons (Ar (Xd (Xd (Xd (f2_ (f1_ (.cons (.p _) p5))))))) p1)) fun v164 h=>?_;apply iU h<;>intro h
 ·exact iB h
 refine iR h fun h=>?_;refine iR h fun h=>?_;refine iR h fun h=>?_;refine iR h fun h=>?_;exact iB h
end
end
end Go.Av
