/- Part of FrommqttCalls: the law returns true; no condition. -/
import Derived.Test.YtbcddiagcaddbaaGreatDoorLiftF4
set_option linter.all false
open Go.IntKind (wrap)
namespace Go.Av
noncomputable section
open Go.Proofs
set_option maxRecDepth 100000
set_option maxHeartbeats 4000000
attribute [local irreducible] Q06 Ue Qdu Qjw Qxl Qy1 Qj3
section
def Ys (N:Nat) (e:Qd):Option Bool:=
 (Qk N e.Packet (⟨0,false,false,0,0,[],[],false,0,[],false,[],false,[],false,(⟨[],[],0,false,[]⟩:Y5),false,0,[],[],[]⟩:Q1)).bind fun v1=>
 cond v1
 (cond (((e.Msg.Type':Int) == 0)&&(((e.Msg.Flags.Dup:Bool) == false)&&(((e.Msg.Flags.QoS:Int) == 0)&&(((e.Msg.Flags.Retain:Bool) == false)&&(((e.Msg.Flags.Will:Bool) == false)&&(((e.Msg.Flags.Clean:Bool) == false)&&(((e.Msg.Flags.Type':Int) == 0)&&(((e.Msg.Gateway:Int) == 0)&&(((e.Msg.Radius:Int) == 0)&&(((e.Msg.Time:Int) == 0)&&(((e.Msg.Timed:Bool) == false)&&(((e.Msg.TopicID:Int) == 0)&&(((e.Msg.MsgID:Int) == 0)&&(((e.Msg.Code:Int) == 0)&&(((e.Msg.Name:List UInt8) == [])&&(((e.Msg.Data:List UInt8) == [])&&true))))))))))))))))
 ((Us N e.Frame (⟨0,0,[],[]⟩:Y2)).bind fun v5=>
 some v5)
 (some false))
 (some false)
theorem Ua {N} {e} {r} (h:Ys N e=some r):pU 96 [.agg (Qd.cells e)] (.bool r):=by
 refine Q0 k96 ?_;unfold Ys at h;refine cP h Qv (.cons zb (.cons (Ap (Qo (f2_ (f1_ (.cons (.nil _) (f2_ (.cons (.nil _) (.cons (.nil _) (.cons (.nil _) .nil))))))))) .nil)) fun v1 h=>?_;refine iR h fun h=>?_;refine Qo8 (ks := [0,2,0,2,2,2,0,0,0,0,2,0,0,0,1,1]) (xs := [iI e.Msg.Type',.p (.bool e.Msg.Flags.Dup),iI e.Msg.Flags.QoS,.p (.bool e.Msg.Flags.Retain),.p (.bool e.Msg.Flags.Will),.p (.bool e.Msg.Flags.Clean),iI e.Msg.Flags.Type',iI e.Msg.Gateway,iI e.Msg.Radius,iI e.Msg.Time,.p (.bool e.Msg.Timed),iI e.Msg.TopicID,iI e.Msg.MsgID,iI e.Msg.Code,iS e.Msg.Name,iS e.Msg.Data]) (ys := [iI 0,.p (.bool false),iI 0,.p (.bool false),.p (.bool false),.p (.bool false),iI 0,iI 0,iI 0,iI 0,.p (.bool false),iI 0,iI 0,iI 0,iS [],iS []]) (b:=(((e.Msg.Type':Int) == 0)&&(((e.Msg.Flags.Dup:Bool) == false)&&(((e.Msg.Flags.QoS:Int) == 0)&&(((e.Msg.Flags.Retain:Bool) == false)&&(((e.Msg.Flags.Will:Bool) == false)&&(((e.Msg.Flags.Clean:Bool) == false)&&(((e.Msg.Flags.Type':Int) == 0)&&(((e.Msg.Gateway:Int) == 0)&&(((e.Msg.Radius:Int) == 0)&&(((e.Msg.Time:Int) == 0)&&(((e.Msg.Timed:Bool) == false)&&(((e.Msg.TopicID:Int) == 0)&&(((e.Msg.MsgID:Int) == 0)&&(((e.Msg.Code:Int) == 0)&&(((e.Msg.Name:List UInt8) == [])&&(((e.Msg.Data:List UInt8) == [])&&true))))))))))))))))) rfl ?_;refine iR h fun h=>?_;refine cP h Q5w (.cons q4 (.cons q4n .nil)) fun v5 h=>?_;cases h;exact (.p _)
def Q1t (_N:Nat):Option (Yz):=
 some (⟨1048576,32⟩:Yz)
theorem Q7x {N} {r} (h:Q1t N=some r):pU 34 [] (.agg (Yz.cells r)):=by
 refine Q0 k34 ?_;unfold Q1t at h;obtain rfl:=Qi h;exact q2
def U1 (_N:Nat) (l:Yz):Option Bool:=
 cond (Q4 .geq l.MaxPacket 16)
 (cond (Q4 .leq l.MaxPacket 1048576)
 (cond (Q4 .geq l.MaxDepth 0)
 (some (Q4 .leq l.MaxDepth 32))
 (some false))
 (some false))
 (some false)
theorem Q4t {N} {l} {r} (h:U1 N l=some r):pU 37 [.agg (Yz.cells l)] (.bool r):=by
 refine Q0 k37 ?_;unfold U1 at h;rw [cX] at h;refine iR h fun h=>?_;refine iR h fun h=>?_;exact iB h
def Q11 (_N:Nat) (e:Qd):Option Bool:=
 cond (Q4 .neq e.Proto 3)
 (cond (Q4 .eql e.Type' 0)
 (some (Q4 .eql ((Q7 Q09.cells e.Hops).length:Int) 0))
 (some false))
 (none)
theorem Qc1 {N} {e} {r} (h:Q11 N e=some r):pU 95 [.agg (Qd.cells e)] (.bool r):=by
 refine Q0 k95 ?_;unfold Q11 at h;rw [cX] at h;apply iU h<;>intro h
 ·exact iB h
 first | (cases h;done) | (simp [Qcn] at h;done)
def Zb (N:Nat) (e:Qd) (s66:Bool):Option Int:=
 cond s66
 (some 2)
 ((Yy N 3 e.Props).bind fun v76=>
 cond (Q4 .neq v76 0)
 (some 9)
 (some 0))
def Qw (N:Nat) (e:Qd) (s44:Bool):Option Int:=
 cond s44
 (some 2)
 (cond (Q4 .lss e.Channel 0)
 (Zb N e true)
 (cond (Q4 .gtr e.Channel 65535)
 (Zb N e true)
 (cond (Q4 .neq e.Channel 0)
 (cond (Q4 .neq e.Proto 4)
 (Zb N e true)
 ((Ys N e).bind fun v71=>
 Zb N e (!v71)))
 ((Ys N e).bind fun v73=>
 Zb N e (!v73)))))
def Xn (N:Nat) (k4:Bool->Option Int) (e:Qd) (s52:Bool):Option Int:=
 cond s52
 (k4 s52)
 ((Q11 N e).bind fun v55=>
 k4 (!v55))
def Yu (N:Nat) (k4:Bool->Option Int) (e:Qd) (s47:Bool):Option Int:=
 cond s47
 (k4 s47)
 (cond (Q4 .gtr ((Q7 Q6.cells e.Props).length:Int) 0)
 (Xn N k4 e (Q4 .neq e.Proto 2))
 (Xn N k4 e false))
def Z9 (N:Nat) (e:Qd) (acked20:Bool) (s26:Bool):Option Int:=
 cond s26
 (some 2)
 (cond e.Dup
 (cond (!acked20)
 (Yu N (Qw N e) e (Q4 .neq e.Proto 3))
 (Yu N (Qw N e) e false))
 (Yu N (Qw N e) e false))
def Xo (N:Nat) (e:Qd) (least17:Int) (acked20:Bool):Option Int:=
 cond (Q4 .lss e.QoS least17)
 (Z9 N e acked20 true)
 (cond (Q4 .gtr e.QoS 2)
 (Z9 N e acked20 true)
 (cond (Q4 .lss e.ID 0)
 (Z9 N e acked20 true)
 (cond (Q4 .gtr e.ID 65535)
 (Z9 N e acked20 true)
 (Z9 N e acked20 (!((Q4 .neq e.ID 0) == acked20))))))
def Wy (N:Nat) (e:Qd) (least17:Int):Option Int:=
 cond (Q4 .eql e.QoS 1)
 (Xo N e least17 true)
 (Xo N e least17 (Q4 .eql e.QoS 2))
def Yv (N:Nat) (e:Qd) (s9:Bool):Option Int:=
 cond s9
 (some 2)
 ((Qr N e.Topic).bind fun v13=>
 cond (!v13)
 (some 10)
 (cond (Q4 .eql e.Proto 3)
 (Wy N e (-1))
 (Wy N e 0)))
def Ud (N:Nat) (e:Qd):Option Int:=
 cond (Q4 .lss e.Proto 1)
 (Yv N e true)
 (cond (Q4 .gtr e.Proto 4)
 (Yv N e true)
 (Yv N e (Q4 .neq e.Kind 1)))
theorem Q8a {N} {e} {r} (h:Ud N e=some r):pU 58 [.agg (Qd.cells e)] (.int .i64 r):=by
 refine Q0 k58 ?_;unfold Ud at h;rw [cX] at h;refine Y1 ?_;refine Vl (σ:=Bool) (fun s9=>(.any :: .ptr 0 0::a8 (a4 (a2 (.any :: .p (.bool s9)::a16 (a16 (a16 (a16 (a16 (a8 (a4 (a2 (.any :: []))))))))))):List AV)) (fun _=>(.cells (Q6j e ([])) :: []:List AObj)) (fun s9=>Yv N e s9=some r) (fun _ _=>Lj _) ?_ ?_
 ·apply iU h<;>intro h
  ·show Exists _;exact ⟨(true),h,(fun i=>i),Yf⟩
  apply iU h<;>intro h
  ·show Exists _;exact ⟨(true),h,(fun i=>i),Yf⟩
  show Exists _;exact ⟨((Qmr .neq e.Kind 1)),h,(fun i=>i),Yf⟩
 rintro s9 h
 unfold Yv at h;rw [cX] at h;refine iL h fun h=>?_;refine cP h Zi p1 fun v13 h=>?_;refine iL h fun h=>?_;refine Vl (σ:=Int) (fun least17=>(.any :: .ptr 0 0 :: .any::iI least17::a16 (a16 (a16 (a16 (a16 (a16 (a8 (a4 (.any :: [])))))))):List AV)) (fun _=>(.cells (Q6j e ([])) :: []:List AObj)) (fun least17=>Wy N e least17=some r) (fun _ _=>Lj _) ?_ ?_
 ·apply iU h<;>intro h
  ·show Exists _;exact ⟨((-1)),h,(fun i=>i),Yf⟩
  show Exists _;exact ⟨(0),h,(fun i=>i),Yf⟩
 rintro least17 h
 unfold Wy at h;rw [cX] at h;refine Vl (σ:=Bool) (fun acked20=>(.any :: .ptr 0 0 :: .any::iI least17 :: .p (.bool acked20)::a16 (a16 (a16 (a16 (a16 (a16 (a8 (a4 ([])))))))):List AV)) (fun _=>(.cells (Q6j e ([])) :: []:List AObj)) (fun acked20=>Xo N e least17 acked20=some r) (fun _ _=>Lj _) ?_ ?_
 ·apply iU h<;>intro h
  ·show Exists _;exact ⟨(true),h,(fun i=>i),Yf⟩
  show Exists _;exact ⟨((Qmr .eql e.QoS 2)),h,(fun i=>i),Yf⟩
 rintro acked20 h
 unfold Xo at h;rw [cX] at h;refine Vl (σ:=Bool) (fun s26=>(.any :: .ptr 0 0 :: .any :: .any :: .p (.bool acked20)::a16 (a8 (a4 (.p (.bool s26)::a16 (a16 (a16 (a16 (a8 (a4 (a2 (.any :: [])))))))))):List AV)) (fun _=>(.cells (Q6j e ([])) :: []:List AObj)) (fun s26=>Z9 N e acked20 s26=some r) (fun _ _=>Lj _) ?_ ?_
 ·apply iU h<;>intro h
  ·show Exists _;exact ⟨(true),h,(fun i=>i),Yf⟩
  apply iU h<;>intro h
  ·show Exists _;exact ⟨(true),h,(fun i=>i),Yf⟩
  apply iU h<;>intro h
  ·show Exists _;exact ⟨(true),h,(fun i=>i),Yf⟩
  apply iU h<;>intro h
  ·show Exists _;exact ⟨(true),h,(fun i=>i),Yf⟩
  show Exists _;exact ⟨((!((Qmr .neq e.ID 0) == acked20))),h,(fun i=>i),Yf⟩
 rintro s26 h
 unfold Z9 at h;rw [cX] at h;refine iL h fun h=>?_;refine Vl (σ:=Bool) (fun s44=>(.any :: .ptr 0 0::a16 (a16 (a16 (a8 (a2 (.p (.bool s44)::a16 (a16 (a16 (a4 ([]))))))))):List AV)) (fun _=>(.cells (Q6j e ([])) :: []:List AObj)) (fun s44=>Qw N e s44=some r) (fun _ _=>Lj _) ?_ ?_
 ·refine Vl (σ:=Bool) (fun s47=>(.any :: .ptr 0 0::a16 (a16 (a16 (a8 (a2 (.p (.bool s47)::a16 (a16 (a16 (a4 ([]))))))))):List AV)) (fun _=>(.cells (Q6j e ([])) :: []:List AObj)) (fun s47=>Yu N (Qw N e) e s47=some r) (fun _ _=>Lj _) ?_ ?_
  ·apply iU h<;>intro h
   ·apply iU h<;>intro h
    ·show Exists _;exact ⟨((Qmr .neq e.Proto 3)),h,(fun i=>i),Yf⟩
    show Exists _;exact ⟨(false),h,(fun i=>i),Yf⟩
   show Exists _;exact ⟨(false),h,(fun i=>i),Yf⟩
  rintro s47 h
  unfold Yu at h;rw [cX] at h;apply iU h<;>intro h
  ·show Exists _;exact ⟨(s47),h,(fun i=>i),Yf⟩
  refine Vl (σ:=Bool) (fun s52=>(.any :: .ptr 0 0::a16 (a16 (a16 (a8 (a2 (.p (.bool s52)::a16 (a16 (a16 (a4 ([]))))))))):List AV)) (fun _=>(.cells (Q6j e ([])) :: []:List AObj)) (fun s52=>Xn N (Qw N e) e s52=some r) (fun _ _=>Lj _) ?_ ?_
  ·apply iU h<;>intro h
   ·show Exists _;exact ⟨((Qmr .neq e.Proto 2)),h,(fun i=>i),Yf⟩
   show Exists _;exact ⟨(false),h,(fun i=>i),Yf⟩
  rintro s52 h
  unfold Xn at h;apply iU h<;>intro h
  ·show Exists _;exact ⟨(s52),h,(fun i=>i),Yf⟩
  refine cP h Qc1 (.cons (Ap (Qo (Qo (Qo za)))) .nil) fun v55 h=>?_;show Exists _;exact ⟨((!v55)),h,(fun i=>i),Yf⟩
 rintro s44 h
 unfold Qw at h;rw [cX] at h;refine iL h fun h=>?_;refine Vl (σ:=Bool) (fun s66=>(.any :: .ptr 0 0::a16 (a16 (a16 (a16 (a16 (a2 (.p (.bool s66)::a16 (a8 (a4 ([]))))))))):List AV)) (fun _=>(.cells (Q6j e ([])) :: []:List AObj)) (fun s66=>Zb N e s66=some r) (fun _ _=>Lj _) ?_ ?_
 ·apply iU h<;>intro h
  ·show Exists _;exact ⟨(true),h,(fun i=>i),Yf⟩
  apply iU h<;>intro h
  ·show Exists _;exact ⟨(true),h,(fun i=>i),Yf⟩
  apply iU h<;>intro h
  ·apply iU h<;>intro h
   ·show Exists _;exact ⟨(true),h,(fun i=>i),Yf⟩
   refine cP h Ua (.cons (Ap (Qo (Qo (Qo za)))) .nil) fun v71 h=>?_;show Exists _;exact ⟨((!v71)),h,(fun i=>i),Yf⟩
  refine cP h Ua (.cons (Ap (Qo (Qo (Qo za)))) .nil) fun v73 h=>?_;show Exists _;exact ⟨((!v73)),h,(fun i=>i),Yf⟩
 rintro s66 h
 unfold Zb at h;rw [cX] at h;refine iL h fun h=>?_;refine cP h Ga p2 fun v76 h=>?_;exact iB h
def Ws (_N:Nat) (proto:Int):Option Int:=
 cond (Q4 .eql proto 1)
 (some 4)
 (cond (Q4 .eql proto 2)
 (some 5)
 (some 0))
theorem Q3p {N} {proto} {r} (h:Ws N proto=some r):pU 39 [.int .i64 proto] (.int .i64 r):=by
 refine Q0 k39 ?_;unfold Ws at h;rw [cX] at h;refine iL h fun h=>?_;exact iB h
def Ww (N:Nat) (a:List Q09) (b:List Q09):Nat->Int->Option Bool
 | 0,_=>none
 | n+1,i17=>
  cond (Q4 .lss i17 ((Q7 Q09.cells a).length:Int))
  ((idx a i17).bind fun y19=>
  (idx b i17).bind fun y21=>
  cond (!(((y19.Radius:Int) == y21.Radius)&&(((y19.Node:List UInt8) == y21.Node)&&true)))
  (some false)
  (Ww N a b n (wrap .i64 (i17+1))))
  (some true)
def Gr (N:Nat) (a:List Q09) (b:List Q09):Option Bool:=
 cond (Q4 .neq ((Q7 Q09.cells a).length:Int) ((Q7 Q09.cells b).length:Int))
 (some false)
 (Ww N a b N 0)
theorem Qaw {N} {a} {b} {r} (h:Gr N a b=some r):pU 41 [.slice 2 (Q7 Q09.cells a),.slice 2 (Q7 Q09.cells b)] (.bool r):=by
 refine Q0 k41 ?_;unfold Gr at h;rw [cX] at h;refine iL h fun h=>?_;refine lpH (τ:=Int) (fun i17=>(.p (.slice 2 (Q7 Q09.cells a)) :: .p (.slice 2 (Q7 Q09.cells b))::a2 (.any::iI i17::a16 (a4 ([]))):List AV)) (fun n0 i17=>Ww N a b n0 i17) (0) h fun n0 i17 h=>?_
 first | rw [Ww] at h | simp only [Ww] at h
 rw [cX] at h;refine iR h fun h=>?_;refine Ql ?_;refine xR h fun y19 h=>?_;refine xR h fun y21 h=>?_;refine iL h fun h=>?_;show Exists _;exact ⟨(n0,(wrap .i64 (i17+1))),h,Le _,(fun i=>i),Yf⟩
def Un (N:Nat) (a:Qd) (b:Qd):Option Bool:=
 cond (Q4 .eql a.Proto b.Proto)
 (cond (Q4 .eql a.Kind b.Kind)
 (cond (Q1l .eql a.Topic b.Topic)
 (cond (Q1l .eql a.Payload b.Payload)
 (cond (Q4 .eql a.QoS b.QoS)
 (cond (a.Retain == b.Retain)
 (cond (a.Dup == b.Dup)
 (cond (Q4 .eql a.ID b.ID)
 ((V2 N a.Props b.Props).bind fun v9=>
 cond v9
 (cond (Q4 .eql a.Type' b.Type')
 ((Gr N a.Hops b.Hops).bind fun v13=>
 cond v13
 (cond (Q4 .eql a.Channel b.Channel)
 ((Qk N a.Packet b.Packet).bind fun v17=>
 cond v17
 (cond (((a.Msg.Type':Int) == b.Msg.Type')&&(((a.Msg.Flags.Dup:Bool) == b.Msg.Flags.Dup)&&(((a.Msg.Flags.QoS:Int) == b.Msg.Flags.QoS)&&(((a.Msg.Flags.Retain:Bool) == b.Msg.Flags.Retain)&&(((a.Msg.Flags.Will:Bool) == b.Msg.Flags.Will)&&(((a.Msg.Flags.Clean:Bool) == b.Msg.Flags.Clean)&&(((a.Msg.Flags.Type':Int) == b.Msg.Flags.Type')&&(((a.Msg.Gateway:Int) == b.Msg.Gateway)&&(((a.Msg.Radius:Int) == b.Msg.Radius)&&(((a.Msg.Time:Int) == b.Msg.Time)&&(((a.Msg.Timed:Bool) == b.Msg.Timed)&&(((a.Msg.TopicID:Int) == b.Msg.TopicID)&&(((a.Msg.MsgID:Int) == b.Msg.MsgID)&&(((a.Msg.Code:Int) == b.Msg.Code)&&(((a.Msg.Name:List UInt8) == b.Msg.Name)&&(((a.Msg.Data:List UInt8) == b.Msg.Data)&&true))))))))))))))))
 ((Us N a.Frame b.Frame).bind fun v21=>
 some v21)
 (some false))
 (some false))
 (some false))
 (some false))
 (some false))
 (some false))
 (some false))
 (some false))
 (some false))
 (some false))
 (some false))
 (some false))
 (some false))
 (some false)
theorem Q5o {N} {a} {b} {r} (h:Un N a b=some r):pU 17 [.agg (Qd.cells a),.agg (Qd.cells b)] (.bool r):=by
 refine Q0 k17 ?_;unfold Un at h;rw [cX,cY] at h;refine iR h fun h=>?_;refine iR h fun h=>?_;refine iR h fun h=>?_;refine iR h fun h=>?_;refine iR h fun h=>?_;refine iR h fun h=>?_;refine iR h fun h=>?_;refine iR h fun h=>?_;refine cP h Q2f p2 fun v9 h=>?_;refine iR h fun h=>?_;refine iR h fun h=>?_;refine cP h Qaw p2 fun v13 h=>?_;refine iR h fun h=>?_;refine iR h fun h=>?_;refine cP h Qv (.cons zb zc) fun v17 h=>?_;refine iR h fun h=>?_;refine Qo8 (ks := [0,2,0,2,2,2,0,0,0,0,2,0,0,0,1,1]) (xs := [iI a.Msg.Type',.p (.bool a.Msg.Flags.Dup),iI a.Msg.Flags.QoS,.p (.bool a.Msg.Flags.Retain),.p (.bool a.Msg.Flags.Will),.p (.bool a.Msg.Flags.Clean),iI a.Msg.Flags.Type',iI a.Msg.Gateway,iI a.Msg.Radius,iI a.Msg.Time,.p (.bool a.Msg.Timed),iI a.Msg.TopicID,iI a.Msg.MsgID,iI a.Msg.Code,iS a.Msg.Name,iS a.Msg.Data]) (ys := [iI b.Msg.Type',.p (.bool b.Msg.Flags.Dup),iI b.Msg.Flags.QoS,.p (.bool b.Msg.Flags.Retain),.p (.bool b.Msg.Flags.Will),.p (.bool b.Msg.Flags.Clean),iI b.Msg.Flags.Type',iI b.Msg.Gateway,iI b.Msg.Radius,iI b.Msg.Time,.p (.bool b.Msg.Timed),iI b.Msg.TopicID,iI b.Msg.MsgID,iI b.Msg.Code,iS b.Msg.Name,iS b.Msg.Data]) (b:=(((a.Msg.Type':Int) == b.Msg.Type')&&(((a.Msg.Flags.Dup:Bool) == b.Msg.Flags.Dup)&&(((a.Msg.Flags.QoS:Int) == b.Msg.Flags.QoS)&&(((a.Msg.Flags.Retain:Bool) == b.Msg.Flags.Retain)&&(((a.Msg.Flags.Will:Bool) == b.Msg.Flags.Will)&&(((a.Msg.Flags.Clean:Bool) == b.Msg.Flags.Clean)&&(((a.Msg.Flags.Type':Int) == b.Msg.Flags.Type')&&(((a.Msg.Gateway:Int) == b.Msg.Gateway)&&(((a.Msg.Radius:Int) == b.Msg.Radius)&&(((a.Msg.Time:Int) == b.Msg.Time)&&(((a.Msg.Timed:Bool) == b.Msg.Timed)&&(((a.Msg.TopicID:Int) == b.Msg.TopicID)&&(((a.Msg.MsgID:Int) == b.Msg.MsgID)&&(((a.Msg.Code:Int) == b.Msg.Code)&&(((a.Msg.Name:List UInt8) == b.Msg.Name)&&(((a.Msg.Data:List UInt8) == b.Msg.Data)&&true))))))))))))))))) rfl ?_;refine iR h fun h=>?_;refine cP h Q5w (.cons q4 (.cons q4 .nil)) fun v21 h=>?_;cases h;exact (.p _)
def Jn (N:Nat) (e:Qd) (l:Yz):Option Int:=
 (Un N (⟨e.Proto,e.Kind,e.Topic,e.Payload,e.QoS,e.Retain,e.Dup,e.ID,e.Props,e.Type',[],e.Channel,(⟨0,false,false,0,0,[],[],false,0,[],false,[],false,[],false,(⟨[],[],0,false,[]⟩:Y5),false,0,[],[],[]⟩:Q1),(⟨0,(⟨false,0,false,false,false,0⟩:Q26),0,0,0,false,0,0,0,[],[]⟩:Qbr),(⟨0,0,[],[]⟩:Y2)⟩:Qd) (⟨e.Proto,2,[],[],0,false,false,0,[],0,[],0,(⟨0,false,false,0,0,[],[],false,0,[],false,[],false,[],false,(⟨[],[],0,false,[]⟩:Y5),false,0,[],[],[]⟩:Q1),(⟨0,(⟨false,0,false,false,false,0⟩:Q26),0,0,0,false,0,0,0,[],[]⟩:Qbr),(⟨0,0,[],[]⟩:Y2)⟩:Qd)).bind fun v1=>
 cond (!v1)
 (some 2)
 ((Ws N e.Proto).bind fun v4=>
 cond (Q4 .neq v4 0)
 ((Ys N (⟨e.Proto,e.Kind,e.Topic,e.Payload,e.QoS,e.Retain,e.Dup,e.ID,e.Props,e.Type',e.Hops,e.Channel,(⟨0,false,false,0,0,[],[],false,0,[],false,[],false,[],false,(⟨[],[],0,false,[]⟩:Y5),false,0,[],[],[]⟩:Q1),e.Msg,e.Frame⟩:Qd)).bind fun v7=>
 cond (!v7)
 (some 2)
 (cond (Q4 .gtr ((Q7 Q09.cells e.Hops).length:Int) 0)
 (some 2)
 (cond (Q4 .eql e.Packet.Kind 3)
 (some 2)
 ((U2 N v4 e.Packet).bind fun v12=>
 some v12))))
 (cond (Q4 .eql e.Proto 3)
 ((Ys N (⟨e.Proto,e.Kind,e.Topic,e.Payload,e.QoS,e.Retain,e.Dup,e.ID,e.Props,e.Type',e.Hops,e.Channel,e.Packet,(⟨0,(⟨false,0,false,false,false,0⟩:Q26),0,0,0,false,0,0,0,[],[]⟩:Qbr),e.Frame⟩:Qd)).bind fun v15=>
 cond (!v15)
 (some 2)
 (cond (Q4 .eql e.Msg.Type' 12)
 (some 2)
 (none)))
 (cond (Q4 .eql e.Proto 4)
 ((Ys N (⟨e.Proto,e.Kind,e.Topic,e.Payload,e.QoS,e.Retain,e.Dup,e.ID,e.Props,e.Type',e.Hops,e.Channel,e.Packet,e.Msg,(⟨0,0,[],[]⟩:Y2)⟩:Qd)).bind fun v20=>
 cond (!v20)
 (some 2)
 (cond (Q4 .gtr ((Q7 Q09.cells e.Hops).length:Int) 0)
 (some 2)
 (none)))
 (some 2))))
theorem Q9v {N} {e} {l} {r} (h:Jn N e l=some r):pU 59 [.agg (Qd.cells e),.agg (Yz.cells l)] (.int .i64 r):=by
 refine Q0 k59 ?_;unfold Jn at h;rw [cX] at h;refine cP h Q5o (.cons (Ap (f8_ (f2_ (.cons (.nil _) (Qo (f4_ (.cons (.nil _) (f2_ (.cons (.nil _) (.cons (.nil _) (.cons (.nil _) (Qo (f2_ (f1_ (.cons (.nil _) .nil))))))))))))))) (.cons (Ap (f8_ (.cons (.nil _) (.cons (.p _) (.cons (.nil _) (Qo (f4_ (.cons (.nil _) (f2_ (.cons (.nil _) (.cons (.nil _) (.cons (.nil _) (Qo (f2_ (f1_ (.cons (.nil _) .nil)))))))))))))))) .nil)) fun v1 h=>?_;refine iL h fun h=>?_;refine cP h Q3p p1 fun v4 h=>?_;apply iU h<;>intro h
 ·refine cP h Ua (.cons (Ap (Qo (f8_ (f4_ (f2_ (f1_ (.cons (.nil _) (f2_ (.cons (.nil _) (.cons (.nil _) (.cons (.nil _) (f8_ (f4_ (f2_ (.cons (.p _) p5))))))))))))))) .nil) fun v7 h=>?_;refine iL h fun h=>?_;refine iL h fun h=>?_;refine iL h fun h=>?_;refine cP h Q4w zd fun v12 h=>?_;cases h;exact (.p _)
 apply iU h<;>intro h
 ·refine cP h Ua (.cons (Ap (Qo (Qo (Qo za)))) .nil) fun v15 h=>?_;refine iL h fun h=>?_;refine iL h fun h=>?_
  first | (cases h;done) | (simp [Qcn] at h;done)
 refine iR h fun h=>?_;refine Ql ?_;refine cD h Ua (.cons (Ap (Qo (Qo (Qo (f8_ (.cons (.nil _) .nil)))))) .nil) fun v20 h=>?_;refine iL h fun h=>?_;refine iL h fun h=>?_
 first | (cases h;done) | (simp [Qcn] at h;done)
def Js (N:Nat) (e:Qd) (l:Yz):Option Int:=
 (U1 N l).bind fun v1=>
 cond (!v1)
 (some 2)
 (cond (Q4 .eql e.Kind 1)
 ((Ud N e).bind fun v5=>
 cond (Q4 .eql v5 0)
 (cond (Q4 .gtr (e.Payload.length:Int) l.MaxPacket)
 (some 4)
 (some v5))
 (some v5))
 (cond (Q4 .eql e.Kind 2)
 ((Jn N e l).bind fun v10=>
 some v10)
 (some 2)))
theorem Q9b {N} {e} {l} {r} (h:Js N e l=some r):pU 33 [.agg (Qd.cells e),.agg (Yz.cells l)] (.int .i64 r):=by
 refine Q0 k33 ?_;unfold Js at h;rw [cX] at h;refine cP h Q4t (.cons q2 .nil) fun v1 h=>?_;refine iL h fun h=>?_;apply iU h<;>intro h
 ·refine cP h Q8a (.cons (Ap (Qo (Qo (Qo za)))) .nil) fun v5 h=>?_;refine iR h fun h=>?_;exact iB h
 refine iR h fun h=>?_;refine cP h Q9v (.cons (Ap (Qo (Qo (Qo za)))) (.cons q2 .nil)) fun v10 h=>?_;cases h;exact (.p _)
def Xs (N:Nat) (proto:Int):Option (Int×Bool):=
 (Ws N proto).bind fun v1=>
 some (v1,(Q4 .neq v1 0))
theorem Q3t {N} {proto} {r} (h:Xs N proto=some r):pU 14 [.int .i64 proto] (.tuple [.int .i64 r.1,.bool r.2]):=by
 refine Q0 k14 ?_;unfold Xs at h;rw [cX] at h;refine cP h Q3p p1 fun v1 h=>?_;obtain rfl:=Qi h;exact u2
def Um (N:Nat) (e:Qd):Option (Int×Q1×Int):=
 (Xs N e.Proto).bind fun v1=>
 cond (!v1.2)
 (some (0,(⟨0,false,false,0,0,[],[],false,0,[],false,[],false,[],false,(⟨[],[],0,false,[]⟩:Y5),false,0,[],[],[]⟩:Q1),2))
 ((Q1t N).bind fun v4=>
 (Js N e v4).bind fun v6=>
 cond (Q4 .neq v6 0)
 (some (0,(⟨0,false,false,0,0,[],[],false,0,[],false,[],false,[],false,(⟨[],[],0,false,[]⟩:Y5),false,0,[],[],[]⟩:Q1),v6))
 ((W3 N e).bind fun v9=>
 cond (Q4 .eql v9.Kind 2)
 (some (v1.1,v9.Packet,0))
 (some (v1.1,(⟨3,v9.Dup,v9.Retain,v9.QoS,v9.ID,v9.Topic,v9.Payload,false,0,[],false,[],false,[],false,(⟨[],[],0,false,[]⟩:Y5),false,0,[],[],v9.Props⟩:Q1),0))))
theorem Q5n {N} {e} {r} (h:Um N e=some r):pU 10 [.agg (Qd.cells e)] (.tuple [.int .i64 r.1,.agg (Q1.cells r.2.1),.int .i64 r.2.2]):=by
 refine Q0 k10 ?_;unfold Um at h;rw [cX] at h;refine cP h Q3t p1 fun v1 h=>?_;apply iU h<;>intro h
 ·obtain rfl:=Qi h;exact (Aq (.cons (.p _) (.cons (Ap (Qo (f2_ (f1_ (.cons (.nil _) (f2_ (.cons (.nil _) (.cons (.nil _) (.cons (.nil _) .nil))))))))) p1)))
 refine Ql ?_;refine cD h Q7x p0 fun v4 h=>?_;refine cD h Q9b (.cons (Ap (Qo (Qo (Qo za)))) p1) fun v6 h=>?_;apply iU h<;>intro h
 ·obtain rfl:=Qi h;exact (Aq (.cons (.p _) (.cons (Ap (Qo (f2_ (f1_ (.cons (.nil _) (f2_ (.cons (.nil _) (.cons (.nil _) (.cons (.nil _) .nil))))))))) p1)))
 refine cP h Q2b (.cons (Ap (Qo (Qo (Qo za)))) .nil) fun v9 h=>?_;apply iU h<;>intro h
 ·refine Ql ?_;obtain rfl:=Qi h;exact (Aq (.cons (.p _) (.cons zb p1)))
 refine Ql ?_;obtain rfl:=Qi h;exact (Aq (.cons (.p _) (.cons (Ap (Qo (f2_ (f1_ (.cons (.nil _) (f2_ (.cons (.nil _) (.cons (.nil _) p1)))))))) p1)))
def Q2m (_N:Nat) (l:Yz):Option Bool:=
 cond (Q4 .geq l.MaxPacket 16)
 (cond (Q4 .leq l.MaxPacket 1048576)
 (cond (Q4 .geq l.MaxDepth 0)
 (some (Q4 .leq l.MaxDepth 32))
 (some false))
 (some false))
 (some false)
theorem Qdm {N} {l} {r} (h:Q2m N l=some r):pU 35 [.agg (Yz.cells l)] (.bool r):=by
 refine Q0 k35 ?_;unfold Q2m at h;rw [cX] at h;refine iR h fun h=>?_;refine iR h fun h=>?_;exact iB h
def Q02 (N:Nat) (kind:Int) (flags:Int):Option Bool:=
 cond (Q4 .neq kind 3)
 ((Q4o N kind).bind fun v2=>
 some (Q4 .eql flags v2))
 (cond (Q4 .lss flags 0)
 (some false)
 (cond (Q4 .gtr flags 15)
 (some false)
 (cond (Q4 .neq (Q7g .i64 flags 6) 6)
 (cond (Q4 .neq (Q7g .i64 flags 6) 0)
 (some true)
 (some (Q4 .eql (Q7g .i64 flags 8) 0)))
 (some false))))
theorem Qgi {N} {kind} {flags} {r} (h:Q02 N kind flags=some r):pU 161 [.int .i64 kind,.int .i64 flags] (.bool r):=by
 refine Q0 Zlj ?_;unfold Q02 at h;rw [cX] at h;apply iU h<;>intro h
 ·refine cP h Qcd p1 fun v2 h=>?_;cases h;exact (.p _)
 refine iL h fun h=>?_;refine iL h fun h=>?_;refine iR h fun h=>?_;exact iB h
def Ge (N:Nat):Nat->Int->Int->Option Int
 | 0,_,_=>none
 | n+1,n8,size9=>
  cond (Q4 .geq n8 128)
  (Ge N n (wrap .i64 ((n8:Int).tdiv 128)) (wrap .i64 (size9+1)))
  (some size9)
def Q62 (N:Nat) (n_0:Int):Option Int:=
 (Q4n N n_0).bind fun v1=>
 cond (!v1)
 (some 0)
 (Ge N N n_0 1)
theorem Qhu {N} {n_0} {r} (h:Q62 N n_0=some r):pU 162 [.int .i64 n_0] (.int .i64 r):=by
 refine Q0 Zm5 ?_;unfold Q62 at h;refine cP h Qcq p1 fun v1 h=>?_;refine iL h fun h=>?_;refine lpH (τ:=Int×Int) (fun ⟨n8,size9⟩=>(iI n8 :: .any :: .any::iI size9::a8 (a2 ([])):List AV)) (fun n0 ⟨n8,size9⟩=>Ge N n0 n8 size9) (n_0,1) h fun n0 ⟨n8,size9⟩ h=>?_
 first | rw [Ge] at h | simp only [Ge] at h
 rw [cX] at h;refine iR h fun h=>?_;show Exists _;exact ⟨(n0,(wrap .i64 ((n8:Int).tdiv 128)),(wrap .i64 (size9+1))),h,Le _,(fun i=>i),Yf⟩
def Q8r (N:Nat) (version:Int) (h_1:Qhy):Option Int:=
 (Q8k N version).bind fun v1=>
 cond (!v1)
 (some 2)
 ((Q4i N version h_1.Kind).bind fun v4=>
 cond (!v4)
 (some 8)
 ((Q02 N h_1.Kind h_1.Flags).bind fun v7=>
 cond (!v7)
 (some 7)
 ((Q62 N h_1.Length).bind fun v10=>
 cond (Q4 .eql v10 0)
 (some 2)
 (some 0))))
theorem Qjs {N} {version} {h_1} {r} (h:Q8r N version h_1=some r):pU 104 [.int .i64 version,.agg (Qhy.cells h_1)] (.int .i64 r):=by
 refine Q0 Zk0 ?_;unfold Q8r at h;rw [cX] at h;refine cP h Qcl p1 fun v1 h=>?_;refine iL h fun h=>?_;refine cP h Qbs p2 fun v4 h=>?_;refine iL h fun h=>?_;refine cP h Qgi p2 fun v7 h=>?_;refine iL h fun h=>?_;refine cP h Qhu p1 fun v10 h=>?_;exact iB h
def Q6u (N:Nat) (version:Int) (h_1:Qhy):Option ((List UInt8)×Int):=
 (Q8r N version h_1).bind fun v1=>
 cond (Q4 .neq v1 0)
 (some ([],v1))
 ((Ji N h_1.Length).bind fun v4=>
 (X4 N (wrap .u64 (orI .i64 (Qbp .i64 h_1.Kind 4) h_1.Flags)) 1).bind fun v6=>
 cond (Nat.ble (v6.length+v4.1.length) 4611686018427387904) (some ((v6++v4.1),0)) none)
theorem Qjy {N} {version} {h_1} {r} (h:Q6u N version h_1=some r):pU 61 [.int .i64 version,.agg (Qhy.cells h_1)] (.tuple [.str r.1,.int .i64 r.2]):=by
 refine Q0 k61 ?_;unfold Q6u at h;rw [cX] at h;refine cP h Qjs (.cons (.p _) (.cons (Ap p3) .nil)) fun v1 h=>?_;refine iL2 h fun h=>?_;refine cP h Q3n p1 fun v4 h=>?_;refine cP h Yt p2 fun v6 h=>?_;refine kU h fun h=>?_;obtain rfl:=Qi h;exact u2
def Q6y (N:Nat) (version:Int) (p:Q1):Option ((List UInt8)×Int):=
 (Q6a N version p).bind fun v1=>
 cond (Q4 .neq v1.2 0)
 (some ([],v1.2))
 ((Q1f N version p).bind fun v4=>
 cond (Q4 .neq v4.2 0)
 (some ([],v4.2))
 ((Q6u N version (⟨p.Kind,v4.1,(v1.1.length:Int)⟩:Qhy)).bind fun v7=>
 cond (Q4 .neq v7.2 0)
 (some ([],v7.2))
 (cond (Nat.ble (v7.1.length+v1.1.length) 4611686018427387904) (some ((v7.1++v1.1),0)) none)))
theorem Qjv {N} {version} {p} {r} (h:Q6y N version p=some r):pU 36 [.int .i64 version,.agg (Q1.cells p)] (.tuple [.str r.1,.int .i64 r.2]):=by
 refine Q0 k36 ?_;unfold Q6y at h;rw [cX] at h;refine cP h Qdd zd fun v1 h=>?_;refine iL2 h fun h=>?_;refine cP h Q7w zd fun v4 h=>?_;refine iL2 h fun h=>?_;refine cP h Qjy (.cons (.p _) (.cons (Ap p3) .nil)) fun v7 h=>?_;refine iL2 h fun h=>?_;refine kU h fun h=>?_;obtain rfl:=Qi h;exact u2
def Q2n (N:Nat) (e:Qd) (l:Yz):Option ((List UInt8)×Int):=
 (Q2m N l).bind fun v1=>
 cond (!v1)
 (some ([],2))
 ((Q1z N e).bind fun v4=>
 cond (Q4 .neq v4.2.2 0)
 (some ([],v4.2.2))
 ((Q6y N v4.1 v4.2.1).bind fun v7=>
 cond (Q4 .neq v7.2 0)
 (some ([],v7.2))
 (cond (Q4 .gtr (v7.1.length:Int) l.MaxPacket)
 (some ([],4))
 (some (v7.1,0)))))
theorem Qdz {N} {e} {l} {r} (h:Q2n N e l=some r):pU 11 [.agg (Qd.cells e),.agg (Yz.cells l)] (.tuple [.str r.1,.int .i64 r.2]):=by
 refine Q0 k11 ?_;unfold Q2n at h;rw [cX] at h;refine cP h Qdm (.cons q2 .nil) fun v1 h=>?_;refine iL2 h fun h=>?_;refine cP h Q8p (.cons (Ap (Qo (Qo (Qo za)))) .nil) fun v4 h=>?_;refine iL2 h fun h=>?_;refine cP h Qjv zd fun v7 h=>?_;refine iL2 h fun h=>?_;exact iB2 h
def Xk (_N:Nat) (k_0:Int) (f:Int):Option Bool:=
 cond (Q4 .eql k_0 3)
 (cond (Q4 .geq f 0)
 (cond (Q4 .leq f 15)
 (cond (Q4 .lss (((wrap .i64 ((f:Int).tdiv 2)):Int).tmod 4) 3)
 (cond (Q4 .lss f 8)
 (some true)
 (some (Q4 .gtr (((wrap .i64 ((f:Int).tdiv 2)):Int).tmod 4) 0)))
 (some false))
 (some false))
 (some false))
 (cond (Q4 .eql k_0 6)
 (some (Q4 .eql f 2))
 (cond (Q4 .eql k_0 8)
 (some (Q4 .eql f 2))
 (cond (Q4 .eql k_0 10)
 (some (Q4 .eql f 2))
 (some (Q4 .eql f 0)))))
theorem Q9n {N} {k_0} {f} {r} (h:Xk N k_0 f=some r):pU 164 [.int .i64 k_0,.int .i64 f] (.bool r):=by
 refine Q0 Zcp ?_;unfold Xk at h;rw [cX] at h;apply iU h<;>intro h
 ·refine iR h fun h=>?_;refine iR h fun h=>?_;refine iR h fun h=>?_;exact iB h
 refine ifO h (fun hc6 h=>?_) (fun hc6 h=>?_)
 ·refine ifT hc6 ?_;cases h;exact (.p _)
 refine ifO h (fun hc7 h=>?_) (fun hc7 h=>?_)
 ·refine ifT hc7 ?_;cases h;exact (.p _)
 exact iB h
def Q0z (N:Nat) (version:Int) (h_1:Qhy):Option Int:=
 (Z7 N version).bind fun v1=>
 cond (!v1)
 (some 2)
 ((Ul N version h_1.Kind).bind fun v4=>
 cond (!v4)
 (some 8)
 ((Xk N h_1.Kind h_1.Flags).bind fun v7=>
 cond (!v7)
 (some 7)
 (cond (Q4 .lss h_1.Length 0)
 (some 2)
 (cond (Q4 .gtr h_1.Length 268435455)
 (some 2)
 (some 0)))))
theorem Q9d {N} {version} {h_1} {r} (h:Q0z N version h_1=some r):pU 108 [.int .i64 version,.agg (Qhy.cells h_1)] (.int .i64 r):=by
 refine Q0 Zch ?_;unfold Q0z at h;rw [cX] at h;refine cP h Y9 p1 fun v1 h=>?_;refine iL h fun h=>?_;refine cP h Q55 p2 fun v4 h=>?_;refine iL h fun h=>?_;refine cP h Q9n p2 fun v7 h=>?_;refine iL h fun h=>?_;refine iL h fun h=>?_;exact iB h
def Jz (N:Nat) (version:Int) (h_1:Qhy):Option ((List UInt8)×Int):=
 (Q0z N version h_1).bind fun v1=>
 cond (Q4 .neq v1 0)
 (some ([],v1))
 ((Wn N h_1.Length).bind fun v4=>
 (Zj N (wrap .u64 (wrap .i64 ((wrap .i64 (16 * h_1.Kind))+h_1.Flags))) 1).bind fun v6=>
 cond (Nat.ble (v6.length+v4.1.length) 4611686018427387904) (some ((v6++v4.1),0)) none)
theorem Q9h {N} {version} {h_1} {r} (h:Jz N version h_1=some r):pU 63 [.int .i64 version,.agg (Qhy.cells h_1)] (.tuple [.str r.1,.int .i64 r.2]):=by
 refine Q0 k63 ?_;unfold Jz at h;rw [cX] at h;refine cP h Q9d (.cons (.p _) (.cons (Ap p3) .nil)) fun v1 h=>?_;refine iL2 h fun h=>?_;refine cP h Q1w p1 fun v4 h=>?_;refine cP h Y6 p2 fun v6 h=>?_;refine kU h fun h=>?_;obtain rfl:=Qi h;exact u2
def Jo (N:Nat) (version:Int) (p:Q1):Option ((List UInt8)×Int):=
 (Vx N version p).bind fun v1=>
 cond (Q4 .neq v1.2 0)
 (some ([],v1.2))
 ((Xl N version p).bind fun v4=>
 (Jz N version (⟨p.Kind,v4.1,(v1.1.length:Int)⟩:Qhy)).bind fun v6=>
 cond (Nat.ble (v6.1.length+v1.1.length) 4611686018427387904) (some ((v6.1++v1.1),0)) none)
theorem Qa2 {N} {version} {p} {r} (h:Jo N version p=some r):pU 38 [.int .i64 version,.agg (Q1.cells p)] (.tuple [.str r.1,.int .i64 r.2]):=by
 refine Q0 k38 ?_;unfold Jo at h;rw [cX] at h;refine cP h Q4x zd fun v1 h=>?_;refine iL2 h fun h=>?_;refine cP h Q4v zd fun v4 h=>?_;refine cP h Q9h (.cons (.p _) (.cons (Ap p3) .nil)) fun v6 h=>?_;refine kU h fun h=>?_;obtain rfl:=Qi h;exact u2
def Jl (N:Nat) (e:Qd) (l:Yz):Option ((List UInt8)×Int):=
 (U1 N l).bind fun v1=>
 cond (!v1)
 (some ([],2))
 ((Um N e).bind fun v4=>
 cond (Q4 .neq v4.2.2 0)
 (some ([],v4.2.2))
 ((Jo N v4.1 v4.2.1).bind fun v7=>
 cond (Q4 .eql v7.2 0)
 (cond (Q4 .gtr (v7.1.length:Int) l.MaxPacket)
 (some ([],4))
 (cond (Q4 .neq v7.2 0)
 (some ([],v7.2))
 (some (v7.1,0))))
 (cond (Q4 .neq v7.2 0)
 (some ([],v7.2))
 (some (v7.1,0)))))
theorem Qa3 {N} {e} {l} {r} (h:Jl N e l=some r):pU 12 [.agg (Qd.cells e),.agg (Yz.cells l)] (.tuple [.str r.1,.int .i64 r.2]):=by
 refine Q0 k12 ?_;unfold Jl at h;rw [cX] at h;refine cP h Q4t (.cons q2 .nil) fun v1 h=>?_;refine iL2 h fun h=>?_;refine cP h Q5n (.cons (Ap (Qo (Qo (Qo za)))) .nil) fun v4 h=>?_;refine iL2 h fun h=>?_;refine cP h Qa2 zd fun v7 h=>?_;apply iU h<;>intro h
 ·apply iU h<;>intro h
  ·refine dT ?_;obtain rfl:=Qi h;exact u2
  exact iB2 h
 exact iB2 h
def Xx (N:Nat) (version:Int) (p:Q1) (e:Qd) (l:Yz) (n_4:Int):Option Bool:=
 (Q1b N).bind fun v1=>
 cond (!v1)
 (some false)
 ((Vg N p).bind fun v4=>
 cond (!v4)
 (some true)
 ((G6 N e).bind fun v7=>
 cond (!v7)
 (some true)
 ((Q3l N version p).bind fun v10=>
 (Q12 N version p).bind fun v12=>
 (Q1z N e).bind fun v14=>
 (Um N e).bind fun v16=>
 (Q2n N e l).bind fun v18=>
 (Jl N e l).bind fun v20=>
 (U6 N n_4).bind fun v22=>
 (Xs N n_4).bind fun v24=>
 (Gc N n_4).bind fun v26=>
 (Wj N n_4).bind fun v28=>
 (Un N v10.1 v12.1).bind fun v30=>
 cond v30
 (cond (Q4 .eql v10.2 v12.2)
 (cond (Q4 .eql v14.1 v16.1)
 ((Qk N v14.2.1 v16.2.1).bind fun v35=>
 cond v35
 (cond (Q4 .eql v14.2.2 v16.2.2)
 (cond (Q1l .eql v18.1 v20.1)
 (cond (Q4 .eql v18.2 v20.2)
 (cond (Q4 .eql v22.1 v24.1)
 (cond (v22.2 == v24.2)
 (cond (Q4 .eql v26.1 v28.1)
 (some (v26.2 == v28.2))
 (some false))
 (some false))
 (some false))
 (some false))
 (some false))
 (some false))
 (some false))
 (some false))
 (some false))
 (some false))))
theorem Q63 {N} {version} {p} {e} {l} {n_4} {r} (h:Xx N version p e l n_4=some r):pU 3 [.int .i64 version,.agg (Q1.cells p),.agg (Qd.cells e),.agg (Yz.cells l),.int .i64 n_4] (.bool r):=by
 refine Q0 k3 ?_;unfold Xx at h;rw [cX,cY] at h;refine cP h Q9w p0 fun v1 h=>?_;refine iL h fun h=>?_;refine cP h Q31 zc fun v4 h=>?_;refine iL h fun h=>?_;refine cP h Q7n (.cons (Ap (Qo (Qo (Qo za)))) .nil) fun v7 h=>?_;refine iL h fun h=>?_;refine cP h Qba zd fun v10 h=>?_;refine cP h Qbz zd fun v12 h=>?_;refine cP h Q8p (.cons (Ap (Qo (Qo (Qo za)))) .nil) fun v14 h=>?_;refine cP h Q5n (.cons (Ap (Qo (Qo (Qo za)))) .nil) fun v16 h=>?_;refine cP h Qdz (.cons (Ap (Qo (Qo (Qo za)))) (.cons q2 .nil)) fun v18 h=>?_;refine cP h Qa3 (.cons (Ap (Qo (Qo (Qo za)))) (.cons q2 .nil)) fun v20 h=>?_;refine cP h Q6q p1 fun v22 h=>?_;refine cP h Q3t p1 fun v24 h=>?_;refine cP h Q85 p1 fun v26 h=>?_;refine cP h Q4m p1 fun v28 h=>?_;refine cP h Q5o (.cons (Ap (Qo (Qo (Qo za)))) (.cons (Ap (Qo (Qo (Qo za)))) .nil)) fun v30 h=>?_;refine iR h fun h=>?_;refine iR h fun h=>?_;refine iR h fun h=>?_;refine cP h Qv (.cons zb zc) fun v35 h=>?_;refine iR h fun h=>?_;refine iR h fun h=>?_;refine iR h fun h=>?_;refine iR h fun h=>?_;refine iR h fun h=>?_;refine iR h fun h=>?_;exact iB h
end
end
end Go.Av
