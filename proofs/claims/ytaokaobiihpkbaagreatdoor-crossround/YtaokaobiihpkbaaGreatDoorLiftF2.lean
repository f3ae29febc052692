/- Part of the proof of CrossRound: for every input the law returns true; no condition. -/
import Derived.Test.YtaokaobiihpkbaaGreatDoorLiftF1
set_option linter.all false
open Go.IntKind (wrap)
namespace Go.Av
noncomputable section
open Go.Proofs
set_option maxRecDepth 100000
set_option maxHeartbeats 4000000
attribute [local irreducible] Xd Qu Q6p Q5q Qoa Qoi Qgy
section
def Xs (N:Nat) (d:Qm) (l:X2) (v26:(List UInt8)×Int):Nat→(List UInt8)→Int→Option ((List UInt8)×Int)
 | 0,_,_=>none
 | n+1,out43,s44=>
  cond (Q5 .lss s44 ((Q9 V0.cells d.Hops).length:Int))
  ((idx d.Hops s44).bind fun y46=>
  (Ul N y46).bind fun v48=>
  cond (Nat.ble (out43.length+v48.length) 4611686018427387904) (Xs N d l v26 n (out43++v48) (wrap .i64 (s44+1))) none)
  (cond (Q5 .gtr (wrap .i64 ((out43.length:Int)+(v26.1.length:Int))) l.MaxPacket)
  (some ([],4))
  (cond (Nat.ble (out43.length+v26.1.length) 4611686018427387904) (some ((out43++v26.1),0)) none))
def Zk (N:Nat) (d:Qm) (l:X2) (v53:(List UInt8)×Int):Nat→(List UInt8)→Int→Option ((List UInt8)×Int)
 | 0,_,_=>none
 | n+1,out70,s71=>
  cond (Q5 .lss s71 ((Q9 V0.cells d.Hops).length:Int))
  ((idx d.Hops s71).bind fun y73=>
  (Ul N y73).bind fun v75=>
  cond (Nat.ble (out70.length+v75.length) 4611686018427387904) (Zk N d l v53 n (out70++v75) (wrap .i64 (s71+1))) none)
  (cond (Q5 .gtr (wrap .i64 ((out70.length:Int)+(v53.1.length:Int))) l.MaxPacket)
  (some ([],4))
  (cond (Nat.ble (out70.length+v53.1.length) 4611686018427387904) (some ((out70++v53.1),0)) none))
def Y3 (N:Nat) (d:Qm) (l:X2):Nat→Int→Option ((List UInt8)×Int)
 | 0,_=>none
 | n+1,s18=>
  cond (Q5 .lss s18 ((Q9 V0.cells d.Hops).length:Int))
  ((idx d.Hops s18).bind fun y20=>
  (J4 N y20).bind fun v22=>
  cond v22
  (cond (Q5 .geq s18 0)
  (some ([],2))
  ((Xw N d.Msg).bind fun v26=>
  cond (Q5 .neq v26.2 0)
  (some ([],v26.2))
  (Xs N d l v26 N [] 0)))
  (Y3 N d l n (wrap .i64 (s18+1))))
  ((Xw N d.Msg).bind fun v53=>
  cond (Q5 .neq v53.2 0)
  (some ([],v53.2))
  (Zk N d l v53 N [] 0))
def J7 (N:Nat) (d:Qm) (l:X2):Option ((List UInt8)×Int):=
 (Gd N l).bind fun v1=>
 cond (!v1)
 (some ([],2))
 (cond (Q5 .gtr ((Q9 V0.cells d.Hops).length:Int) 4)
 (some ([],12))
 (Y3 N d l N 0))
theorem Q9b {N} {d} {l} {r} (h:J7 N d l=some r):pU 118 [.agg (Qm.cells d),.agg (X2.cells l)] (.tuple [.str r.1,.int .i64 r.2]):=by
 refine Q3 Z8x ?_;unfold J7 at h;rw [cX] at h;refine cP h Q9g (.cons q2 .nil) fun v1 h=>?_;refine iL2 h fun h=>?_;refine iL2 h fun h=>?_;refine Qf Z13 ?_;refine Qf Z4q ?_;refine lpH (τ:=Int) (fun s18=>(.p (.slice 2 (Q9 V0.cells d.Hops)) :: .p (.func (.func 155) [] [])::a4 (.any::iI ((Q9 V0.cells d.Hops).length:Int)::iI s18::a8 (a2 ([]))):List AV)) (fun n0 s18=>Y3 N d l n0 s18) (0) h fun n0 s18 h=>?_
 first | rw [Y3] at h | simp only [Y3] at h
 rw [cX] at h;apply iU h<;>intro h
 ·refine xR h fun y20 h=>?_;refine cP h Q76 (.cons q2 .nil) fun v22 h=>?_;apply iU h<;>intro h
  ·refine iL2 h fun h=>?_;refine cP h Q4y (.cons (Frz.agg' (f8_ (f2_ (.cons (.p _) p5)))) .nil) fun v26 h=>?_;refine iL2 h fun h=>?_;refine lpH (τ:=(List UInt8)×Int) (fun ⟨out43,s44⟩=>(a2 (.any :: .ptr 1 0 :: .any :: .any::iS v26.1 :: .any::iS out43::a16 (a4 (a2 (.p (.slice 2 (Q9 V0.cells d.Hops))::iI ((Q9 V0.cells d.Hops).length:Int)::iI s44::a16 (a2 (.any :: [])))))):List AV)) (fun n1 ⟨out43,s44⟩=>Xs N d l v26 n1 out43 s44) ([],0) h fun n1 ⟨out43,s44⟩ h=>?_
   first | rw [Xs] at h | simp only [Xs] at h
   rw [cX] at h;apply iU h<;>intro h
   ·refine xR h fun y46 h=>?_;refine cP h Q1z (.cons q2 .nil) fun v48 h=>?_;refine kU h fun h=>?_;show Exists _;exact ⟨(n1,(out43++v48),(wrap .i64 (s44+1))),h,Lg _,(fun i=>i),Yr⟩
   refine iL2 h fun h=>?_;refine kU h fun h=>?_;obtain rfl:=Qv h;exact u2
  show Exists _;exact ⟨(n0,(wrap .i64 (s18+1))),h,Lg _,(fun i=>i),Yr⟩
 refine dF ?_;refine cP h Q4y (.cons (Frz.agg' (f8_ (f2_ (.cons (.p _) p5)))) .nil) fun v53 h=>?_;refine iL2 h fun h=>?_;refine lpH (τ:=(List UInt8)×Int) (fun ⟨out70,s71⟩=>(a2 (.any :: .ptr 1 0 :: .any :: .any::iS v53.1 :: .any::iS out70::a16 (a4 (a2 (.p (.slice 2 (Q9 V0.cells d.Hops))::iI ((Q9 V0.cells d.Hops).length:Int)::iI s71::a16 (a2 (.any :: [])))))):List AV)) (fun n2 ⟨out70,s71⟩=>Zk N d l v53 n2 out70 s71) ([],0) h fun n2 ⟨out70,s71⟩ h=>?_
 first | rw [Zk] at h | simp only [Zk] at h
 rw [cX] at h;apply iU h<;>intro h
 ·refine xR h fun y73 h=>?_;refine cP h Q1z (.cons q2 .nil) fun v75 h=>?_;refine kU h fun h=>?_;show Exists _;exact ⟨(n2,(out70++v75),(wrap .i64 (s71+1))),h,Lg _,(fun i=>i),Yr⟩
 refine iL2 h fun h=>?_;refine kU h fun h=>?_;obtain rfl:=Qv h;exact u2
def Zv (N:Nat) (d:Qm) (l:X2):Option Int:=
 (J7 N d l).bind fun v1=>
 some v1.2
theorem Vc {N} {d} {l} {r} (h:Zv N d l=some r):pU 95 [.agg (Qm.cells d),.agg (X2.cells l)] (.int .i64 r):=by
 refine Q3 k95 ?_;unfold Zv at h;refine cP h Q9b (.cons (Frz.agg' (f8_ (f2_ (f1_ (.cons (.p _) p5))))) (.cons q2 .nil)) fun v1 h=>?_;cases h;exact (.p _)
def Gg (_N:Nat):Option (X2):=
 some (⟨1048576,32⟩:X2)
theorem Q2m {N} {r} (h:Gg N=some r):pU 98 [] (.agg (X2.cells r)):=by
 refine Q3 k98 ?_;unfold Gg at h;obtain rfl:=Qv h;exact q2
def Va (_N:Nat) (n_0:Int) (low:Int) (high:Int):Option Bool:=
 cond (Q5 .geq n_0 low)
 (some (Q5 .leq n_0 high))
 (some false)
theorem G0 {N} {n_0} {low} {high} {r} (h:Va N n_0 low high=some r):pU 60 [.int .i64 n_0,.int .i64 low,.int .i64 high] (.bool r):=by
 refine Q3 k60 ?_;unfold Va at h;rw [cX] at h;exact iB h
def Vz (N:Nat) (e:Qc):Option Bool:=
 (Va N e.Type' 0 2).bind fun v1=>
 cond (!v1)
 (some false)
 ((G4 N e.Topic).bind fun v4=>
 cond (Q5 .eql e.Type' 2)
 (cond (!v4.2)
 (some false)
 ((Gg N).bind fun v8=>
 (Zv N (⟨e.Hops,(⟨23,(⟨false,0,false,false,false,0⟩:Qp),0,0,0,false,0,0,0,[],[]⟩:Wh)⟩:Qm) v8).bind fun v10=>
 some (Q5 .eql v10 0)))
 ((Gg N).bind fun v12=>
 (Zv N (⟨e.Hops,(⟨23,(⟨false,0,false,false,false,0⟩:Qp),0,0,0,false,0,0,0,[],[]⟩:Wh)⟩:Qm) v12).bind fun v14=>
 some (Q5 .eql v14 0)))
theorem Qaa {N} {e} {r} (h:Vz N e=some r):pU 65 [.agg (Qc.cells e)] (.bool r):=by
 refine Q3 k65 ?_;unfold Vz at h;rw [cX] at h;refine cP h G0 p3 fun v1 h=>?_;refine iL h fun h=>?_;refine cP h Q51 p1 fun v4 h=>?_;apply iU h<;>intro h
 ·refine iL h fun h=>?_;refine Qk ?_;refine cD h Q2m p0 fun v8 h=>?_;refine cD h Vc (.cons (Frz.agg' (f8_ (f2_ (f1_ (.cons (.p _) p5))))) p1) fun v10 h=>?_;cases h;exact (.p _)
 refine Qk ?_;refine cD h Q2m p0 fun v12 h=>?_;refine cD h Vc (.cons (Frz.agg' (f8_ (f2_ (f1_ (.cons (.p _) p5))))) p1) fun v14 h=>?_;cases h;exact (.p _)
def Vx (N:Nat) (e:Qc):Option Bool:=
 (Q2j N e.Packet (⟨0,false,false,0,0,[],[],false,0,[],false,[],false,[],false,(⟨[],[],0,false,[]⟩:Wj),false,0,[],[],[]⟩:Ql)).bind fun v1=>
 cond v1
 (cond (((e.Msg.Type':Int) == 0)&&(((e.Msg.Flags.Dup:Bool) == false)&&(((e.Msg.Flags.QoS:Int) == 0)&&(((e.Msg.Flags.Retain:Bool) == false)&&(((e.Msg.Flags.Will:Bool) == false)&&(((e.Msg.Flags.Clean:Bool) == false)&&(((e.Msg.Flags.Type':Int) == 0)&&(((e.Msg.Gateway:Int) == 0)&&(((e.Msg.Radius:Int) == 0)&&(((e.Msg.Time:Int) == 0)&&(((e.Msg.Timed:Bool) == false)&&(((e.Msg.TopicID:Int) == 0)&&(((e.Msg.MsgID:Int) == 0)&&(((e.Msg.Code:Int) == 0)&&(((e.Msg.Name:List UInt8) == [])&&(((e.Msg.Data:List UInt8) == [])&&true))))))))))))))))
 ((Jt N e.Frame (⟨0,0,[],[]⟩:Zi)).bind fun v5=>
 some v5)
 (some false))
 (some false)
theorem Qbh {N} {e} {r} (h:Vx N e=some r):pU 69 [.agg (Qc.cells e)] (.bool r):=by
 refine Q3 k69 ?_;unfold Vx at h;refine cP h Qdi (.cons (Frz.agg' (Za (f2_ (f1_ (.cons (.p _) p5))))) (.cons (Frz.agg' (Za (f2_ (f1_ (.cons (.nil _) (f2_ (.cons (.nil _) (.cons (.nil _) (.cons (.nil _) .nil))))))))) .nil)) fun v1 h=>?_;refine iR h fun h=>?_;refine Qlh (ks := [0,2,0,2,2,2,0,0,0,0,2,0,0,0,1,1]) (xs := [iI e.Msg.Type',.p (.bool e.Msg.Flags.Dup),iI e.Msg.Flags.QoS,.p (.bool e.Msg.Flags.Retain),.p (.bool e.Msg.Flags.Will),.p (.bool e.Msg.Flags.Clean),iI e.Msg.Flags.Type',iI e.Msg.Gateway,iI e.Msg.Radius,iI e.Msg.Time,.p (.bool e.Msg.Timed),iI e.Msg.TopicID,iI e.Msg.MsgID,iI e.Msg.Code,iS e.Msg.Name,iS e.Msg.Data]) (ys := [iI 0,.p (.bool false),iI 0,.p (.bool false),.p (.bool false),.p (.bool false),iI 0,iI 0,iI 0,iI 0,.p (.bool false),iI 0,iI 0,iI 0,iS [],iS []]) (b:=(((e.Msg.Type':Int) == 0)&&(((e.Msg.Flags.Dup:Bool) == false)&&(((e.Msg.Flags.QoS:Int) == 0)&&(((e.Msg.Flags.Retain:Bool) == false)&&(((e.Msg.Flags.Will:Bool) == false)&&(((e.Msg.Flags.Clean:Bool) == false)&&(((e.Msg.Flags.Type':Int) == 0)&&(((e.Msg.Gateway:Int) == 0)&&(((e.Msg.Radius:Int) == 0)&&(((e.Msg.Time:Int) == 0)&&(((e.Msg.Timed:Bool) == false)&&(((e.Msg.TopicID:Int) == 0)&&(((e.Msg.MsgID:Int) == 0)&&(((e.Msg.Code:Int) == 0)&&(((e.Msg.Name:List UInt8) == [])&&(((e.Msg.Data:List UInt8) == [])&&true))))))))))))))))) rfl ?_;refine iR h fun h=>?_;refine cP h Q8o (.cons q4 (.cons q4n .nil)) fun v5 h=>?_;cases h;exact (.p _)
def Ja:List (Int×Uo) := [(1,(⟨[109,113,116,116,51]⟩:Uo)),(2,(⟨[109,113,116,116,53]⟩:Uo)),(3,(⟨[115,110]⟩:Uo)),(4,(⟨[97,109,113,112]⟩:Uo))]
theorem Q92:pU 96 [] (.pmap (Qyi (fun v => .agg (Uo.cells v)) Ja)):=Q1l Qe8 (N:=2000) (d:=60) (by kernel_rfl)
def Q0h (_N:Nat) (proto:Int):Option Bool:=
 optC (Qam Ja proto) (fun m1=>
 some true)
 (some false)
theorem Qal {N} {proto} {r} (h:Q0h N proto=some r):pU 57 [.int .i64 proto] (.bool r):=by
 refine Q3 k57 ?_;unfold Q0h at h;refine Xz Q92 .nil ?_;refine Qt3 h (fun m1 hm2 h=>?_) (fun hm2 h=>?_)
 ·cases h;exact (.p _)
 cases h;exact (.p _)
def Xy (N:Nat) (e:Qc):Option Int:=
 (Vx N e).bind fun v71=>
 cond (!v71)
 (some 2)
 ((Xc N 3 e.Props).bind fun v77=>
 cond (Q5 .neq v77 0)
 (some 9)
 (some 0))
def W0 (N:Nat) (e:Qc):Option Int:=
 (Va N e.Channel 0 65535).bind fun v61=>
 cond (!v61)
 (some 2)
 (cond (Q5 .neq e.Channel 0)
 (cond (Q5 .neq e.Proto 4)
 (some 2)
 (Xy N e))
 (Xy N e))
def W1 (N:Nat) (e:Qc):Option Int:=
 cond (Q5 .eql e.Proto 3)
 ((Vz N e).bind fun v53=>
 cond (!v53)
 (some 2)
 (W0 N e))
 (cond (Q5 .neq e.Type' 0)
 (some 2)
 (cond (Q5 .gtr ((Q9 V0.cells e.Hops).length:Int) 0)
 (some 2)
 (W0 N e)))
def Xb (N:Nat) (e:Qc):Option Int:=
 cond (Q5 .gtr ((Q9 Zq.cells e.Props).length:Int) 0)
 (cond (Q5 .neq e.Proto 2)
 (some 2)
 (W1 N e))
 (W1 N e)
def Xv (N:Nat) (e:Qc) (c2:Bool):Option Int:=
 (Va N e.ID 0 65535).bind fun v32=>
 cond (!v32)
 (some 2)
 (cond (!(c2 == (Q5 .neq e.ID 0)))
 (some 2)
 (cond e.Dup
 (cond (!c2)
 (cond (!(Q5 .eql e.Proto 3))
 (some 2)
 (Xb N e))
 (Xb N e))
 (Xb N e)))
def Zj (N:Nat) (e:Qc) (c2:Bool):Option Int:=
 (Q0h N e.Proto).bind fun v8=>
 cond (!v8)
 (some 2)
 (cond (Q5 .neq e.Kind 1)
 (some 2)
 ((Yq N e.Topic).bind fun v15=>
 cond (!v15)
 (some 10)
 ((Va N e.QoS 0 2).bind fun v23=>
 cond (!v23)
 (cond (Q5 .eql e.Proto 3)
 (cond (!(Q5 .eql e.QoS (-1)))
 (some 2)
 (Xv N e c2))
 (some 2))
 (Xv N e c2))))
def Y7 (N:Nat) (e:Qc):Option Int:=
 cond (Q5 .eql e.QoS 1)
 (Zj N e true)
 (Zj N e (Q5 .eql e.QoS 2))
theorem Vy {N} {e} {r} (h:Y7 N e=some r):pU 31 [.agg (Qc.cells e)] (.int .i64 r):=by
 refine Q3 k31 ?_;unfold Y7 at h;rw [cX] at h;refine jrA (r:=r) (σ:=Bool) (fun _=>(.any :: .ptr 0 0 :: .any :: .ptr 1 0 :: .ptr 2 0::a16 (a16 (a16 (.any :: []))):List AV)) (fun c2=>(.cells (Q19 e ([])) :: .cells (.p (.bool (Qm1 .eql e.Proto 3)) :: []) :: .cells (.p (.bool c2) :: []) :: []:List AObj)) (fun c2=>Zj N e c2) ?_ ?_
 ·apply iU h<;>intro h
  ·show Exists _;exact ⟨(true),h,(fun i=>i),Yr⟩
  show Exists _;exact ⟨((Qm1 .eql e.QoS 2)),h,(fun i=>i),Yr⟩
 rintro c2 h
 unfold Zj at h;rw [cX] at h;refine rdI 13 ?_;refine rdP ?_;refine dT ?_;refine Qf k56 ?_;refine cP h Qal p1 fun v8 h=>?_;refine iL h fun h=>?_;refine iL h fun h=>?_;refine rdP ?_;refine dT ?_;refine Qf k58 ?_;refine cP h Xi p1 fun v15 h=>?_;refine iL h fun h=>?_;refine rdJ (r:=r) (x:=Xv N e c2) (a16 (a16 (a8 (a2 (.slice 2 3 0 11::iI 11::iI 3::a8 (.any :: [])))))) ?_ ?_
 ·refine dT ?_;refine Qf k59 ?_;refine cP h G0 p3 fun v23 h=>?_;apply iU h<;>intro h
  ·refine iR h fun h=>?_;refine iL h fun h=>?_;show Exists _;exact ⟨(),h,(fun i=>i),Yr⟩
  show Exists _;exact ⟨(),h,(fun i=>i),Yr⟩
 intro h;unfold Xv at h;rw [cX] at h;refine rdP ?_;refine dT ?_;refine Qf k61 ?_;refine cP h G0 p3 fun v32 h=>?_;refine iL h fun h=>?_;refine iL h fun h=>?_;refine rdJ (r:=r) (x:=Xb N e) (a16 (a16 (a8 (a2 (.slice 2 3 0 11::iI 11::iI 5::a8 (.any :: [])))))) ?_ ?_
 ·refine dT ?_;refine Qf k62 ?_;apply iU h<;>intro h
  ·apply iU h<;>intro h
   ·refine iL h fun h=>?_;show Exists _;exact ⟨(),h,(fun i=>i),Yr⟩
   show Exists _;exact ⟨(),h,(fun i=>i),Yr⟩
  show Exists _;exact ⟨(),h,(fun i=>i),Yr⟩
 intro h;unfold Xb at h;rw [cX] at h;refine rdJ (r:=r) (x:=W1 N e) (a16 (a16 (a8 (a2 (.slice 2 3 0 11::iI 11::iI 6::a8 (.any :: [])))))) ?_ ?_
 ·refine dT ?_;refine Qf k63 ?_;apply iU h<;>intro h
  ·refine iL h fun h=>?_;show Exists _;exact ⟨(),h,(fun i=>i),Yr⟩
  show Exists _;exact ⟨(),h,(fun i=>i),Yr⟩
 intro h;unfold W1 at h;rw [cX] at h;refine rdJ (r:=r) (x:=W0 N e) (a16 (a16 (a8 (a2 (.slice 2 3 0 11::iI 11::iI 7::a8 (.any :: [])))))) ?_ ?_
 ·refine dT ?_;refine Qf k64 ?_;refine ifO h (fun hc52 h=>?_) (fun hc52 h=>?_)
  ·refine cP h Qaa (.cons (Frz.agg' (Za (Za (Za (f2_ (f1_ (.cons (.p _) p5))))))) .nil) fun v53 h=>?_;refine iL h fun h=>?_;refine ifF (Z01 hc52) ?_;show Exists _;exact ⟨(),h,(fun i=>i),Yr⟩
  refine ifT (Qz4 hc52) ?_;refine iL h fun h=>?_;refine iL h fun h=>?_;show Exists _;exact ⟨(),h,(fun i=>i),Yr⟩
 intro h;unfold W0 at h;rw [cX] at h;refine rdP ?_;refine dT ?_;refine Qf k66 ?_;refine cP h G0 p3 fun v61 h=>?_;refine iL h fun h=>?_;refine rdJ (r:=r) (x:=Xy N e) (a16 (a16 (a8 (a2 (.slice 2 3 0 11::iI 11::iI 9::a8 (.any :: [])))))) ?_ ?_
 ·refine dT ?_;refine Qf k67 ?_;apply iU h<;>intro h
  ·refine iL h fun h=>?_;show Exists _;exact ⟨(),h,(fun i=>i),Yr⟩
  show Exists _;exact ⟨(),h,(fun i=>i),Yr⟩
 intro h;unfold Xy at h;rw [cX] at h;refine rdP ?_;refine dT ?_;refine Qf k68 ?_;refine cP h Qbh (.cons (Frz.agg' (Za (Za (Za (f2_ (f1_ (.cons (.p _) p5))))))) .nil) fun v71 h=>?_;refine iL h fun h=>?_;refine rdP ?_;refine dT ?_;refine Qf k70 ?_;refine cP h Qd7 p2 fun v77 h=>?_;refine iL h fun h=>?_;refine rdP ?_;refine dF ?_;cases h;exact (.p _)
def Q0i (N:Nat) (e:Qc) (l:X2):Option Int:=
 (Q23 N l).bind fun v1=>
 cond (!v1)
 (some 2)
 (cond (Q5 .eql e.Kind 1)
 ((Y7 N e).bind fun v5=>
 cond (Q5 .neq v5 0)
 (some v5)
 (cond (Q5 .gtr (e.Payload.length:Int) l.MaxPacket)
 (some 4)
 (some 0)))
 (cond (Q5 .eql e.Kind 2)
 (none)
 (some 2)))
theorem Qaj {N} {e} {l} {r} (h:Q0i N e l=some r):pU 92 [.agg (Qc.cells e),.agg (X2.cells l)] (.int .i64 r):=by
 refine Q3 k92 ?_;unfold Q0i at h;rw [cX] at h;refine cP h Qa8 (.cons q2 .nil) fun v1 h=>?_;refine iL h fun h=>?_;apply iU h<;>intro h
 ·refine cP h Vy (.cons (Frz.agg' (Za (Za (Za (f2_ (f1_ (.cons (.p _) p5))))))) .nil) fun v5 h=>?_;refine iL h fun h=>?_;exact iB h
 refine iR h fun h=>?_
 first | (cases h;done) | (simp [Vt] at h;done)
def X3 (_N:Nat):Option (X2):=
 some (⟨1048576,32⟩:X2)
theorem V3 {N} {r} (h:X3 N=some r):pU 93 [] (.agg (X2.cells r)):=by
 refine Q3 k93 ?_;unfold X3 at h;obtain rfl:=Qv h;exact q2
def Yu (N:Nat) (R0:Reg) (client:List UInt8) (e:Qc):Option ((Qm×Int)×Reg):=
 cond (Q5 .neq e.Proto 3)
 (some (((⟨[],(⟨0,(⟨false,0,false,false,false,0⟩:Qp),0,0,0,false,0,0,0,[],[]⟩:Wh)⟩:Qm),2),R0))
 ((X3 N).bind fun v2=>
 (Q0i N e v2).bind fun v4=>
 cond (Q5 .neq v4 0)
 (some (((⟨[],(⟨0,(⟨false,0,false,false,false,0⟩:Qp),0,0,0,false,0,0,0,[],[]⟩:Wh)⟩:Qm),v4),R0))
 ((Gk N e.Hops).bind fun v7=>
 cond (Q5 .eql e.Kind 1)
 (cond (Q5 .eql e.Type' 2)
 ((Vd N (⟨⟩:Gy) e.Topic).bind fun v30=>
 cond (!v30.2)
 (some (((⟨[],(⟨0,(⟨false,0,false,false,false,0⟩:Qp),0,0,0,false,0,0,0,[],[]⟩:Wh)⟩:Qm),11),R0))
 ((X3 N).bind fun v33=>
 (Zv N (⟨v7,(⟨12,(⟨e.Dup,e.QoS,e.Retain,false,false,e.Type'⟩:Qp),0,0,0,false,v30.1,e.ID,0,[],e.Payload⟩:Wh)⟩:Qm) v33).bind fun v35=>
 cond (Q5 .neq v35 0)
 (some (((⟨[],(⟨0,(⟨false,0,false,false,false,0⟩:Qp),0,0,0,false,0,0,0,[],[]⟩:Wh)⟩:Qm),v35),R0))
 (some (((⟨v7,(⟨12,(⟨e.Dup,e.QoS,e.Retain,false,false,e.Type'⟩:Qp),0,0,0,false,v30.1,e.ID,0,[],e.Payload⟩:Wh)⟩:Qm),0),R0))))
 (cond (Q5 .eql e.Type' 1)
 ((Xt N R0 client e.Topic).bind fun v38=>
 cond (Q5 .neq v38.1.2 0)
 (some (((⟨[],(⟨0,(⟨false,0,false,false,false,0⟩:Qp),0,0,0,false,0,0,0,[],[]⟩:Wh)⟩:Qm),11),v38.2))
 ((Q49 N v38.2 client v38.1.1).bind fun v41=>
 cond (!(v41.1 == true))
 (some (((⟨[],(⟨0,(⟨false,0,false,false,false,0⟩:Qp),0,0,0,false,0,0,0,[],[]⟩:Wh)⟩:Qm),11),v41.2))
 ((X3 N).bind fun v44=>
 (Zv N (⟨v7,(⟨12,(⟨e.Dup,e.QoS,e.Retain,false,false,e.Type'⟩:Qp),0,0,0,false,v38.1.1,e.ID,0,[],e.Payload⟩:Wh)⟩:Qm) v44).bind fun v46=>
 cond (Q5 .neq v46 0)
 (some (((⟨[],(⟨0,(⟨false,0,false,false,false,0⟩:Qp),0,0,0,false,0,0,0,[],[]⟩:Wh)⟩:Qm),v46),v41.2))
 (some (((⟨v7,(⟨12,(⟨e.Dup,e.QoS,e.Retain,false,false,e.Type'⟩:Qp),0,0,0,false,v38.1.1,e.ID,0,[],e.Payload⟩:Wh)⟩:Qm),0),v41.2)))))
 ((Xt N R0 client e.Topic).bind fun v49=>
 cond (Q5 .neq v49.1.2 0)
 (some (((⟨[],(⟨0,(⟨false,0,false,false,false,0⟩:Qp),0,0,0,false,0,0,0,[],[]⟩:Wh)⟩:Qm),11),v49.2))
 ((Q49 N v49.2 client v49.1.1).bind fun v52=>
 cond (!(v52.1 == false))
 (some (((⟨[],(⟨0,(⟨false,0,false,false,false,0⟩:Qp),0,0,0,false,0,0,0,[],[]⟩:Wh)⟩:Qm),11),v52.2))
 ((X3 N).bind fun v55=>
 (Zv N (⟨v7,(⟨12,(⟨e.Dup,e.QoS,e.Retain,false,false,e.Type'⟩:Qp),0,0,0,false,v49.1.1,e.ID,0,[],e.Payload⟩:Wh)⟩:Qm) v55).bind fun v57=>
 cond (Q5 .neq v57 0)
 (some (((⟨[],(⟨0,(⟨false,0,false,false,false,0⟩:Qp),0,0,0,false,0,0,0,[],[]⟩:Wh)⟩:Qm),v57),v52.2))
 (some (((⟨v7,(⟨12,(⟨e.Dup,e.QoS,e.Retain,false,false,e.Type'⟩:Qp),0,0,0,false,v49.1.1,e.ID,0,[],e.Payload⟩:Wh)⟩:Qm),0),v52.2)))))))
 ((X3 N).bind fun v60=>
 (Zv N (⟨v7,e.Msg⟩:Qm) v60).bind fun v62=>
 cond (Q5 .neq v62 0)
 (some (((⟨[],(⟨0,(⟨false,0,false,false,false,0⟩:Qp),0,0,0,false,0,0,0,[],[]⟩:Wh)⟩:Qm),v62),R0))
 (some (((⟨v7,e.Msg⟩:Qm),0),R0)))))
theorem Q1r {N} {R0} {client} {e} {r} (h:Yu N R0 client e=some r):Q2x Tryz.prog G1 55 R0 [.str client,.agg (Qc.cells e)] (.tuple [.agg (Qm.cells r.1.1),.int .i64 r.1.2]) r.2:=by
 refine Q9f k55 ?_;unfold Yu at h;rw [cX] at h;apply iU h<;>intro h
 ·obtain rfl:=Qv h;exact ⟨1,rfl,(Frz.tuple' (.cons (Frz.agg' (.cons (.nil _) (f8_ (f2_ (.cons (.p _) p5))))) p1))⟩
 refine Qk ?_;refine cD h V3 p0 fun v2 h=>?_;refine cD h Qaj (.cons (Frz.agg' (Za (Za (Za (f2_ (f1_ (.cons (.p _) p5))))))) p1) fun v4 h=>?_;apply iU h<;>intro h
 ·obtain rfl:=Qv h;exact ⟨1,rfl,(Frz.tuple' (.cons (Frz.agg' (.cons (.nil _) (f8_ (f2_ (.cons (.p _) p5))))) p1))⟩
 refine Qk ?_;refine dcO h Q5g [4] (fun v7 => .slice 2 4 0 v7.length) (rE rfl <| rN) fun v7 h=>?_;apply iU h<;>intro h
 ·refine Qlm 7 0 rfl rfl rfl rfl rfl ?_;refine Qxl h (fun hc28 h=>?_) (fun hc28 h=>?_)
  ·refine Q7e (r := .iface 190 (.agg [])) rfl rfl (Qf k94 (ifT hc28 rfl)) ?_;refine cP h Q6m (.cons (Frz.agg' .nil) p1) fun v30 h=>?_;apply iU h<;>intro h
   ·obtain rfl:=Qv h;exact ⟨1,rfl,(Frz.tuple' (.cons (Frz.agg' (.cons (.nil _) (f8_ (f2_ (.cons (.p _) p5))))) p1))⟩
   refine Qk ?_;refine cD h V3 p0 fun v33 h=>?_;refine dL h Vc [4] (.cons (Frz.agg' (.cons (frz_own (c:=V0.cells) (l:=(v7:List V0)) (fun _=>rfl) rfl (by simp) sd) (f8_ (f2_ (.cons (.p _) p5))))) p1) fun v35 h=>?_;apply iU h<;>intro h
   ·obtain rfl:=Qv h;exact ⟨1,rfl,(Frz.tuple' (.cons (Frz.agg' (.cons (.nil _) (f8_ (f2_ (.cons (.p _) p5))))) p1))⟩
   obtain rfl:=Qv h;exact ⟨1,rfl,(Frz.tuple' (.cons (Frz.agg' (.cons (frz_own (c:=V0.cells) (l:=(v7:List V0)) (fun _=>rfl) rfl (by decide) sd) (f8_ (f2_ (.cons (.p _) p5))))) p1))⟩
  refine Qxl h (fun hc29 h=>?_) (fun hc29 h=>?_)
  ·refine Q7e (r := .iface 192 (.agg [.ptr 0 0,iS client])) rfl rfl (Qf k94 (ifF hc28 (ifT hc29 rfl))) ?_;refine Qf Zc1 ?_;refine Qf Qzu ?_;refine cRg h Xk (b:=1) rfl p2 fun v38 h=>?_;apply iU h<;>intro h
   ·obtain rfl:=Qv h;exact ⟨8,rfl,(Frz.tuple' (.cons (Frz.agg' (.cons (.nil _) (f8_ (f2_ (.cons (.p _) p5))))) p1))⟩
   refine cRg h Q37 (b:=8) rfl p2 fun v41 h=>?_;apply iU h<;>intro h
   ·obtain rfl:=Qv h;exact ⟨9,rfl,(Frz.tuple' (.cons (Frz.agg' (.cons (.nil _) (f8_ (f2_ (.cons (.p _) p5))))) p1))⟩
   refine Qk ?_;refine cD h V3 p0 fun v44 h=>?_;refine dL h Vc [4] (.cons (Frz.agg' (.cons (frz_own (c:=V0.cells) (l:=(v7:List V0)) (fun _=>rfl) rfl (by simp) sd) (f8_ (f2_ (.cons (.p _) p5))))) p1) fun v46 h=>?_;apply iU h<;>intro h
   ·obtain rfl:=Qv h;exact ⟨9,rfl,(Frz.tuple' (.cons (Frz.agg' (.cons (.nil _) (f8_ (f2_ (.cons (.p _) p5))))) p1))⟩
   obtain rfl:=Qv h;exact ⟨9,rfl,(Frz.tuple' (.cons (Frz.agg' (.cons (frz_own (c:=V0.cells) (l:=(v7:List V0)) (fun _=>rfl) rfl (by decide) sd) (f8_ (f2_ (.cons (.p _) p5))))) p1))⟩
  refine Q7e (r := .iface 193 (.agg [.ptr 0 0,iS client])) rfl rfl (Qf k94 (ifF hc28 (ifF hc29 rfl))) ?_;refine Qf Z81 ?_;refine Qf Qzu ?_;refine cRg h Xk (b:=1) rfl p2 fun v49 h=>?_;apply iU h<;>intro h
  ·obtain rfl:=Qv h;exact ⟨8,rfl,(Frz.tuple' (.cons (Frz.agg' (.cons (.nil _) (f8_ (f2_ (.cons (.p _) p5))))) p1))⟩
  refine cRg h Q37 (b:=8) rfl p2 fun v52 h=>?_;apply iU h<;>intro h
  ·obtain rfl:=Qv h;exact ⟨9,rfl,(Frz.tuple' (.cons (Frz.agg' (.cons (.nil _) (f8_ (f2_ (.cons (.p _) p5))))) p1))⟩
  refine Qk ?_;refine cD h V3 p0 fun v55 h=>?_;refine dL h Vc [4] (.cons (Frz.agg' (.cons (frz_own (c:=V0.cells) (l:=(v7:List V0)) (fun _=>rfl) rfl (by simp) sd) (f8_ (f2_ (.cons (.p _) p5))))) p1) fun v57 h=>?_;apply iU h<;>intro h
  ·obtain rfl:=Qv h;exact ⟨9,rfl,(Frz.tuple' (.cons (Frz.agg' (.cons (.nil _) (f8_ (f2_ (.cons (.p _) p5))))) p1))⟩
  obtain rfl:=Qv h;exact ⟨9,rfl,(Frz.tuple' (.cons (Frz.agg' (.cons (frz_own (c:=V0.cells) (l:=(v7:List V0)) (fun _=>rfl) rfl (by decide) sd) (f8_ (f2_ (.cons (.p _) p5))))) p1))⟩
 refine Qk ?_;refine cD h V3 p0 fun v60 h=>?_;refine dL h Vc [4] (.cons (Frz.agg' (.cons (frz_own (c:=V0.cells) (l:=(v7:List V0)) (fun _=>rfl) rfl (by simp) sd) (f8_ (f2_ (.cons (.p _) p5))))) p1) fun v62 h=>?_;apply iU h<;>intro h
 ·obtain rfl:=Qv h;exact ⟨1,rfl,(Frz.tuple' (.cons (Frz.agg' (.cons (.nil _) (f8_ (f2_ (.cons (.p _) p5))))) p1))⟩
 obtain rfl:=Qv h;exact ⟨1,rfl,(Frz.tuple' (.cons (Frz.agg' (.cons (frz_own (c:=V0.cells) (l:=(v7:List V0)) (fun _=>rfl) rfl (by decide) sd) (f8_ (f2_ (.cons (.p _) p5))))) p1))⟩
def Zl (N:Nat) (R0:Reg) (client:List UInt8) (e:Qc) (proto:Int):Option ((Qc×Int)×Reg):=
 cond ((proto:Int) == 1)
 ((Y7 N e).bind fun v2=>
 cond (Q5 .neq v2 0)
 (some (((⟨0,0,[],[],0,false,false,0,[],0,[],0,(⟨0,false,false,0,0,[],[],false,0,[],false,[],false,[],false,(⟨[],[],0,false,[]⟩:Wj),false,0,[],[],[]⟩:Ql),(⟨0,(⟨false,0,false,false,false,0⟩:Qp),0,0,0,false,0,0,0,[],[]⟩:Wh),(⟨0,0,[],[]⟩:Zi)⟩:Qc),v2),R0))
 (cond (Q5 .eql proto e.Proto)
 ((Wq N e).bind fun v6=>
 some ((v6,0),R0))
 (cond (Q5 .gtr ((Q9 Zq.cells e.Props).length:Int) 0)
 (some (((⟨0,0,[],[],0,false,false,0,[],0,[],0,(⟨0,false,false,0,0,[],[],false,0,[],false,[],false,[],false,(⟨[],[],0,false,[]⟩:Wj),false,0,[],[],[]⟩:Ql),(⟨0,(⟨false,0,false,false,false,0⟩:Qp),0,0,0,false,0,0,0,[],[]⟩:Wh),(⟨0,0,[],[]⟩:Zi)⟩:Qc),15),R0))
 (cond (Q5 .lss e.QoS 0)
 (some (((⟨0,0,[],[],0,false,false,0,[],0,[],0,(⟨0,false,false,0,0,[],[],false,0,[],false,[],false,[],false,(⟨[],[],0,false,[]⟩:Wj),false,0,[],[],[]⟩:Ql),(⟨0,(⟨false,0,false,false,false,0⟩:Qp),0,0,0,false,0,0,0,[],[]⟩:Wh),(⟨0,0,[],[]⟩:Zi)⟩:Qc),15),R0))
 (cond e.Dup
 (some (((⟨proto,1,e.Topic,e.Payload,e.QoS,e.Retain,(Q5 .gtr e.QoS 0),e.ID,[],0,[],0,(⟨0,false,false,0,0,[],[],false,0,[],false,[],false,[],false,(⟨[],[],0,false,[]⟩:Wj),false,0,[],[],[]⟩:Ql),(⟨0,(⟨false,0,false,false,false,0⟩:Qp),0,0,0,false,0,0,0,[],[]⟩:Wh),(⟨0,0,[],[]⟩:Zi)⟩:Qc),0),R0))
 (some (((⟨proto,1,e.Topic,e.Payload,e.QoS,e.Retain,false,e.ID,[],0,[],0,(⟨0,false,false,0,0,[],[],false,0,[],false,[],false,[],false,(⟨[],[],0,false,[]⟩:Wj),false,0,[],[],[]⟩:Ql),(⟨0,(⟨false,0,false,false,false,0⟩:Qp),0,0,0,false,0,0,0,[],[]⟩:Wh),(⟨0,0,[],[]⟩:Zi)⟩:Qc),0),R0)))))))
 (cond ((proto:Int) == 2)
 ((Y7 N e).bind fun v12=>
 cond (Q5 .neq v12 0)
 (some (((⟨0,0,[],[],0,false,false,0,[],0,[],0,(⟨0,false,false,0,0,[],[],false,0,[],false,[],false,[],false,(⟨[],[],0,false,[]⟩:Wj),false,0,[],[],[]⟩:Ql),(⟨0,(⟨false,0,false,false,false,0⟩:Qp),0,0,0,false,0,0,0,[],[]⟩:Wh),(⟨0,0,[],[]⟩:Zi)⟩:Qc),v12),R0))
 (cond (Q5 .eql proto e.Proto)
 ((Wq N e).bind fun v16=>
 some ((v16,0),R0))
 (cond (Q5 .gtr ((Q9 Zq.cells e.Props).length:Int) 0)
 (some (((⟨0,0,[],[],0,false,false,0,[],0,[],0,(⟨0,false,false,0,0,[],[],false,0,[],false,[],false,[],false,(⟨[],[],0,false,[]⟩:Wj),false,0,[],[],[]⟩:Ql),(⟨0,(⟨false,0,false,false,false,0⟩:Qp),0,0,0,false,0,0,0,[],[]⟩:Wh),(⟨0,0,[],[]⟩:Zi)⟩:Qc),15),R0))
 (cond (Q5 .lss e.QoS 0)
 (some (((⟨0,0,[],[],0,false,false,0,[],0,[],0,(⟨0,false,false,0,0,[],[],false,0,[],false,[],false,[],false,(⟨[],[],0,false,[]⟩:Wj),false,0,[],[],[]⟩:Ql),(⟨0,(⟨false,0,false,false,false,0⟩:Qp),0,0,0,false,0,0,0,[],[]⟩:Wh),(⟨0,0,[],[]⟩:Zi)⟩:Qc),15),R0))
 (cond e.Dup
 (some (((⟨proto,1,e.Topic,e.Payload,e.QoS,e.Retain,(Q5 .gtr e.QoS 0),e.ID,[],0,[],0,(⟨0,false,false,0,0,[],[],false,0,[],false,[],false,[],false,(⟨[],[],0,false,[]⟩:Wj),false,0,[],[],[]⟩:Ql),(⟨0,(⟨false,0,false,false,false,0⟩:Qp),0,0,0,false,0,0,0,[],[]⟩:Wh),(⟨0,0,[],[]⟩:Zi)⟩:Qc),0),R0))
 (some (((⟨proto,1,e.Topic,e.Payload,e.QoS,e.Retain,false,e.ID,[],0,[],0,(⟨0,false,false,0,0,[],[],false,0,[],false,[],false,[],false,(⟨[],[],0,false,[]⟩:Wj),false,0,[],[],[]⟩:Ql),(⟨0,(⟨false,0,false,false,false,0⟩:Qp),0,0,0,false,0,0,0,[],[]⟩:Wh),(⟨0,0,[],[]⟩:Zi)⟩:Qc),0),R0)))))))
 (cond ((proto:Int) == 3)
 ((Y7 N e).bind fun v22=>
 cond (Q5 .neq v22 0)
 (some (((⟨0,0,[],[],0,false,false,0,[],0,[],0,(⟨0,false,false,0,0,[],[],false,0,[],false,[],false,[],false,(⟨[],[],0,false,[]⟩:Wj),false,0,[],[],[]⟩:Ql),(⟨0,(⟨false,0,false,false,false,0⟩:Qp),0,0,0,false,0,0,0,[],[]⟩:Wh),(⟨0,0,[],[]⟩:Zi)⟩:Qc),v22),R0))
 (cond (Q5 .eql proto e.Proto)
 ((Wq N e).bind fun v26=>
 some ((v26,0),R0))
 (cond (Q5 .gtr ((Q9 Zq.cells e.Props).length:Int) 0)
 (some (((⟨0,0,[],[],0,false,false,0,[],0,[],0,(⟨0,false,false,0,0,[],[],false,0,[],false,[],false,[],false,(⟨[],[],0,false,[]⟩:Wj),false,0,[],[],[]⟩:Ql),(⟨0,(⟨false,0,false,false,false,0⟩:Qp),0,0,0,false,0,0,0,[],[]⟩:Wh),(⟨0,0,[],[]⟩:Zi)⟩:Qc),15),R0))
 (cond (Q5 .eql (e.Topic.length:Int) 2)
 ((Yu N R0 client (⟨proto,1,e.Topic,e.Payload,e.QoS,e.Retain,e.Dup,e.ID,[],2,[],0,(⟨0,false,false,0,0,[],[],false,0,[],false,[],false,[],false,(⟨[],[],0,false,[]⟩:Wj),false,0,[],[],[]⟩:Ql),(⟨0,(⟨false,0,false,false,false,0⟩:Qp),0,0,0,false,0,0,0,[],[]⟩:Wh),(⟨0,0,[],[]⟩:Zi)⟩:Qc)).bind fun v30=>
 cond (Q5 .neq v30.1.2 0)
 (some (((⟨0,0,[],[],0,false,false,0,[],0,[],0,(⟨0,false,false,0,0,[],[],false,0,[],false,[],false,[],false,(⟨[],[],0,false,[]⟩:Wj),false,0,[],[],[]⟩:Ql),(⟨0,(⟨false,0,false,false,false,0⟩:Qp),0,0,0,false,0,0,0,[],[]⟩:Wh),(⟨0,0,[],[]⟩:Zi)⟩:Qc),15),v30.2))
 (some (((⟨proto,1,e.Topic,e.Payload,e.QoS,e.Retain,e.Dup,e.ID,[],2,[],0,(⟨0,false,false,0,0,[],[],false,0,[],false,[],false,[],false,(⟨[],[],0,false,[]⟩:Wj),false,0,[],[],[]⟩:Ql),(⟨0,(⟨false,0,false,false,false,0⟩:Qp),0,0,0,false,0,0,0,[],[]⟩:Wh),(⟨0,0,[],[]⟩:Zi)⟩:Qc),0),v30.2)))
 ((Xt N R0 client e.Topic).bind fun v33=>
 cond (Q5 .neq v33.1.2 0)
 (some (((⟨0,0,[],[],0,false,false,0,[],0,[],0,(⟨0,false,false,0,0,[],[],false,0,[],false,[],false,[],false,(⟨[],[],0,false,[]⟩:Wj),false,0,[],[],[]⟩:Ql),(⟨0,(⟨false,0,false,false,false,0⟩:Qp),0,0,0,false,0,0,0,[],[]⟩:Wh),(⟨0,0,[],[]⟩:Zi)⟩:Qc),15),v33.2))
 ((Q49 N v33.2 client v33.1.1).bind fun v36=>
 cond v36.1
 ((Yu N v36.2 client (⟨proto,1,e.Topic,e.Payload,e.QoS,e.Retain,e.Dup,e.ID,[],1,[],0,(⟨0,false,false,0,0,[],[],false,0,[],false,[],false,[],false,(⟨[],[],0,false,[]⟩:Wj),false,0,[],[],[]⟩:Ql),(⟨0,(⟨false,0,false,false,false,0⟩:Qp),0,0,0,false,0,0,0,[],[]⟩:Wh),(⟨0,0,[],[]⟩:Zi)⟩:Qc)).bind fun v39=>
 cond (Q5 .neq v39.1.2 0)
 (some (((⟨0,0,[],[],0,false,false,0,[],0,[],0,(⟨0,false,false,0,0,[],[],false,0,[],false,[],false,[],false,(⟨[],[],0,false,[]⟩:Wj),false,0,[],[],[]⟩:Ql),(⟨0,(⟨false,0,false,false,false,0⟩:Qp),0,0,0,false,0,0,0,[],[]⟩:Wh),(⟨0,0,[],[]⟩:Zi)⟩:Qc),15),v39.2))
 (some (((⟨proto,1,e.Topic,e.Payload,e.QoS,e.Retain,e.Dup,e.ID,[],1,[],0,(⟨0,false,false,0,0,[],[],false,0,[],false,[],false,[],false,(⟨[],[],0,false,[]⟩:Wj),false,0,[],[],[]⟩:Ql),(⟨0,(⟨false,0,false,false,false,0⟩:Qp),0,0,0,false,0,0,0,[],[]⟩:Wh),(⟨0,0,[],[]⟩:Zi)⟩:Qc),0),v39.2)))
 ((Yu N v36.2 client (⟨proto,1,e.Topic,e.Payload,e.QoS,e.Retain,e.Dup,e.ID,[],0,[],0,(⟨0,false,false,0,0,[],[],false,0,[],false,[],false,[],false,(⟨[],[],0,false,[]⟩:Wj),false,0,[],[],[]⟩:Ql),(⟨0,(⟨false,0,false,false,false,0⟩:Qp),0,0,0,false,0,0,0,[],[]⟩:Wh),(⟨0,0,[],[]⟩:Zi)⟩:Qc)).bind fun v42=>
 cond (Q5 .neq v42.1.2 0)
 (some (((⟨0,0,[],[],0,false,false,0,[],0,[],0,(⟨0,false,false,0,0,[],[],false,0,[],false,[],false,[],false,(⟨[],[],0,false,[]⟩:Wj),false,0,[],[],[]⟩:Ql),(⟨0,(⟨false,0,false,false,false,0⟩:Qp),0,0,0,false,0,0,0,[],[]⟩:Wh),(⟨0,0,[],[]⟩:Zi)⟩:Qc),15),v42.2))
 (some (((⟨proto,1,e.Topic,e.Payload,e.QoS,e.Retain,e.Dup,e.ID,[],0,[],0,(⟨0,false,false,0,0,[],[],false,0,[],false,[],false,[],false,(⟨[],[],0,false,[]⟩:Wj),false,0,[],[],[]⟩:Ql),(⟨0,(⟨false,0,false,false,false,0⟩:Qp),0,0,0,false,0,0,0,[],[]⟩:Wh),(⟨0,0,[],[]⟩:Zi)⟩:Qc),0),v42.2)))))))))
 (cond ((proto:Int) == 4)
 ((Y7 N e).bind fun v46=>
 cond (Q5 .neq v46 0)
 (some (((⟨0,0,[],[],0,false,false,0,[],0,[],0,(⟨0,false,false,0,0,[],[],false,0,[],false,[],false,[],false,(⟨[],[],0,false,[]⟩:Wj),false,0,[],[],[]⟩:Ql),(⟨0,(⟨false,0,false,false,false,0⟩:Qp),0,0,0,false,0,0,0,[],[]⟩:Wh),(⟨0,0,[],[]⟩:Zi)⟩:Qc),v46),R0))
 (cond (Q5 .eql proto e.Proto)
 ((Wq N e).bind fun v50=>
 some ((v50,0),R0))
 (cond (Q5 .gtr ((Q9 Zq.cells e.Props).length:Int) 0)
 (some (((⟨0,0,[],[],0,false,false,0,[],0,[],0,(⟨0,false,false,0,0,[],[],false,0,[],false,[],false,[],false,(⟨[],[],0,false,[]⟩:Wj),false,0,[],[],[]⟩:Ql),(⟨0,(⟨false,0,false,false,false,0⟩:Qp),0,0,0,false,0,0,0,[],[]⟩:Wh),(⟨0,0,[],[]⟩:Zi)⟩:Qc),15),R0))
 (cond (Q5 .lss e.QoS 0)
 (some (((⟨0,0,[],[],0,false,false,0,[],0,[],0,(⟨0,false,false,0,0,[],[],false,0,[],false,[],false,[],false,(⟨[],[],0,false,[]⟩:Wj),false,0,[],[],[]⟩:Ql),(⟨0,(⟨false,0,false,false,false,0⟩:Qp),0,0,0,false,0,0,0,[],[]⟩:Wh),(⟨0,0,[],[]⟩:Zi)⟩:Qc),15),R0))
 (cond e.Dup
 (some (((⟨proto,1,e.Topic,e.Payload,e.QoS,e.Retain,(Q5 .gtr e.QoS 0),e.ID,[],0,[],0,(⟨0,false,false,0,0,[],[],false,0,[],false,[],false,[],false,(⟨[],[],0,false,[]⟩:Wj),false,0,[],[],[]⟩:Ql),(⟨0,(⟨false,0,false,false,false,0⟩:Qp),0,0,0,false,0,0,0,[],[]⟩:Wh),(⟨0,0,[],[]⟩:Zi)⟩:Qc),0),R0))
 (some (((⟨proto,1,e.Topic,e.Payload,e.QoS,e.Retain,false,e.ID,[],0,[],0,(⟨0,false,false,0,0,[],[],false,0,[],false,[],false,[],false,(⟨[],[],0,false,[]⟩:Wj),false,0,[],[],[]⟩:Ql),(⟨0,(⟨false,0,false,false,false,0⟩:Qp),0,0,0,false,0,0,0,[],[]⟩:Wh),(⟨0,0,[],[]⟩:Zi)⟩:Qc),0),R0)))))))
 (some (((⟨0,0,[],[],0,false,false,0,[],0,[],0,(⟨0,false,false,0,0,[],[],false,0,[],false,[],false,[],false,(⟨[],[],0,false,[]⟩:Wj),false,0,[],[],[]⟩:Ql),(⟨0,(⟨false,0,false,false,false,0⟩:Qp),0,0,0,false,0,0,0,[],[]⟩:Wh),(⟨0,0,[],[]⟩:Zi)⟩:Qc),2),R0)))))
theorem X1 {N} {R0} {client} {e} {proto} {r} (h:Zl N R0 client e proto=some r):Q2x Tryz.prog G1 10 R0 [.str client,.agg (Qc.cells e),.int .i64 proto] (.tuple [.agg (Qc.cells r.1.1),.int .i64 r.1.2]) r.2:=by
 refine Q9f k10 ?_;unfold Zl at h;rw [cX] at h;refine ifO h (fun hc1 h=>?_) (fun hc1 h=>?_)
 ·refine cP h Vy (.cons (Frz.agg' (Za (Za (Za (f2_ (f1_ (.cons (.p _) p5))))))) .nil) fun v2 h=>?_;apply iU h<;>intro h
  ·obtain rfl:=Qv h;exact ⟨1,rfl,(Frz.tuple' (.cons (Frz.agg' (f8_ (.cons (.nil _) (.cons (.p _) (.cons (.nil _) (Za (f4_ (.cons (.nil _) (f2_ (.cons (.nil _) (.cons (.nil _) (.cons (.nil _) (Za (f2_ (f1_ (.cons (.nil _) .nil)))))))))))))))) p1))⟩
  refine ifF (Qyw hc1 (by decide)) ?_;apply iU h<;>intro h
  ·refine cP h Gz (.cons (Frz.agg' (Za (Za (Za (f2_ (f1_ (.cons (.p _) p5))))))) .nil) fun v6 h=>?_;obtain rfl:=Qv h;exact ⟨1,rfl,(Frz.tuple' (.cons (Frz.agg' (Za (Za (Za (f2_ (f1_ (.cons (.p _) p5))))))) p1))⟩
  apply iU h<;>intro h
  ·obtain rfl:=Qv h;exact ⟨1,rfl,(Frz.tuple' (.cons (Frz.agg' (f8_ (.cons (.nil _) (.cons (.p _) (.cons (.nil _) (Za (f4_ (.cons (.nil _) (f2_ (.cons (.nil _) (.cons (.nil _) (.cons (.nil _) (Za (f2_ (f1_ (.cons (.nil _) .nil)))))))))))))))) p1))⟩
  refine Qf k29 ?_;apply iU h<;>intro h
  ·obtain rfl:=Qv h;exact ⟨1,rfl,(Frz.tuple' (.cons (Frz.agg' (f8_ (.cons (.nil _) (.cons (.p _) (.cons (.nil _) (Za (f4_ (.cons (.nil _) (f2_ (.cons (.nil _) (.cons (.nil _) (.cons (.nil _) (Za (f2_ (f1_ (.cons (.nil _) .nil)))))))))))))))) p1))⟩
  apply iU h<;>intro h
  ·refine Qf k53 ?_;obtain rfl:=Qv h;exact ⟨1,rfl,(Frz.tuple' (.cons (Frz.agg' (f8_ (.cons (.nil _) (.cons (.p _) (.cons (.nil _) (Za (f4_ (.cons (.nil _) (f2_ (.cons (.nil _) (.cons (.nil _) (.cons (.nil _) (Za (f2_ (f1_ (.cons (.nil _) .nil)))))))))))))))) p1))⟩
  refine Qf k53 ?_;obtain rfl:=Qv h;exact ⟨1,rfl,(Frz.tuple' (.cons (Frz.agg' (f8_ (.cons (.nil _) (.cons (.p _) (.cons (.nil _) (Za (f4_ (.cons (.nil _) (f2_ (.cons (.nil _) (.cons (.nil _) (.cons (.nil _) (Za (f2_ (f1_ (.cons (.nil _) .nil)))))))))))))))) p1))⟩
 refine ifO h (fun hc11 h=>?_) (fun hc11 h=>?_)
 ·refine cP h Vy (.cons (Frz.agg' (Za (Za (Za (f2_ (f1_ (.cons (.p _) p5))))))) .nil) fun v12 h=>?_;apply iU h<;>intro h
  ·obtain rfl:=Qv h;exact ⟨1,rfl,(Frz.tuple' (.cons (Frz.agg' (f8_ (.cons (.nil _) (.cons (.p _) (.cons (.nil _) (Za (f4_ (.cons (.nil _) (f2_ (.cons (.nil _) (.cons (.nil _) (.cons (.nil _) (Za (f2_ (f1_ (.cons (.nil _) .nil)))))))))))))))) p1))⟩
  refine ifF (Qyw hc11 (by decide)) ?_;apply iU h<;>intro h
  ·refine cP h Gz (.cons (Frz.agg' (Za (Za (Za (f2_ (f1_ (.cons (.p _) p5))))))) .nil) fun v16 h=>?_;obtain rfl:=Qv h;exact ⟨1,rfl,(Frz.tuple' (.cons (Frz.agg' (Za (Za (Za (f2_ (f1_ (.cons (.p _) p5))))))) p1))⟩
  apply iU h<;>intro h
  ·obtain rfl:=Qv h;exact ⟨1,rfl,(Frz.tuple' (.cons (Frz.agg' (f8_ (.cons (.nil _) (.cons (.p _) (.cons (.nil _) (Za (f4_ (.cons (.nil _) (f2_ (.cons (.nil _) (.cons (.nil _) (.cons (.nil _) (Za (f2_ (f1_ (.cons (.nil _) .nil)))))))))))))))) p1))⟩
  refine Qf k29 ?_;apply iU h<;>intro h
  ·obtain rfl:=Qv h;exact ⟨1,rfl,(Frz.tuple' (.cons (Frz.agg' (f8_ (.cons (.nil _) (.cons (.p _) (.cons (.nil _) (Za (f4_ (.cons (.nil _) (f2_ (.cons (.nil _) (.cons (.nil _) (.cons (.nil _) (Za (f2_ (f1_ (.cons (.nil _) .nil)))))))))))))))) p1))⟩
  apply iU h<;>intro h
  ·refine Qf k53 ?_;obtain rfl:=Qv h;exact ⟨1,rfl,(Frz.tuple' (.cons (Frz.agg' (f8_ (.cons (.nil _) (.cons (.p _) (.cons (.nil _) (Za (f4_ (.cons (.nil _) (f2_ (.cons (.nil _) (.cons (.nil _) (.cons (.nil _) (Za (f2_ (f1_ (.cons (.nil _) .nil)))))))))))))))) p1))⟩
  refine Qf k53 ?_;obtain rfl:=Qv h;exact ⟨1,rfl,(Frz.tuple' (.cons (Frz.agg' (f8_ (.cons (.nil _) (.cons (.p _) (.cons (.nil _) (Za (f4_ (.cons (.nil _) (f2_ (.cons (.nil _) (.cons (.nil _) (.cons (.nil _) (Za (f2_ (f1_ (.cons (.nil _) .nil)))))))))))))))) p1))⟩
 refine ifO h (fun hc21 h=>?_) (fun hc21 h=>?_)
 ·refine cP h Vy (.cons (Frz.agg' (Za (Za (Za (f2_ (f1_ (.cons (.p _) p5))))))) .nil) fun v22 h=>?_;apply iU h<;>intro h
  ·obtain rfl:=Qv h;exact ⟨1,rfl,(Frz.tuple' (.cons (Frz.agg' (f8_ (.cons (.nil _) (.cons (.p _) (.cons (.nil _) (Za (f4_ (.cons (.nil _) (f2_ (.cons (.nil _) (.cons (.nil _) (.cons (.nil _) (Za (f2_ (f1_ (.cons (.nil _) .nil)))))))))))))))) p1))⟩
  refine ifT (Qyw hc21 (by decide)) ?_;apply iU h<;>intro h
  ·refine cP h Gz (.cons (Frz.agg' (Za (Za (Za (f2_ (f1_ (.cons (.p _) p5))))))) .nil) fun v26 h=>?_;obtain rfl:=Qv h;exact ⟨1,rfl,(Frz.tuple' (.cons (Frz.agg' (Za (Za (Za (f2_ (f1_ (.cons (.p _) p5))))))) p1))⟩
  apply iU h<;>intro h
  ·obtain rfl:=Qv h;exact ⟨1,rfl,(Frz.tuple' (.cons (Frz.agg' (f8_ (.cons (.nil _) (.cons (.p _) (.cons (.nil _) (Za (f4_ (.cons (.nil _) (f2_ (.cons (.nil _) (.cons (.nil _) (.cons (.nil _) (Za (f2_ (f1_ (.cons (.nil _) .nil)))))))))))))))) p1))⟩
  refine Qf k30 ?_;refine Qf k53 ?_;apply iU h<;>intro h
  ·refine cRg h Q1r (b:=1) rfl (.cons (.p _) (.cons (Frz.agg' (f8_ (.cons (.nil _) (.cons (.p _) (.cons (.nil _) (Za (f4_ (.cons (.nil _) (f2_ (.cons (.nil _) (.cons (.nil _) (.cons (.nil _) (Za (f2_ (f1_ (.cons (.nil _) .nil)))))))))))))))) .nil)) fun v30 h=>?_;apply iU h<;>intro h
   ·obtain rfl:=Qv h;exact ⟨11,rfl,(Frz.tuple' (.cons (Frz.agg' (f8_ (.cons (.nil _) (.cons (.p _) (.cons (.nil _) (Za (f4_ (.cons (.nil _) (f2_ (.cons (.nil _) (.cons (.nil _) (.cons (.nil _) (Za (f2_ (f1_ (.cons (.nil _) .nil)))))))))))))))) p1))⟩
   obtain rfl:=Qv h;exact ⟨11,rfl,(Frz.tuple' (.cons (Frz.agg' (f8_ (.cons (.nil _) (.cons (.p _) (.cons (.nil _) (Za (f4_ (.cons (.nil _) (f2_ (.cons (.nil _) (.cons (.nil _) (.cons (.nil _) (Za (f2_ (f1_ (.cons (.nil _) .nil)))))))))))))))) p1))⟩
  refine cRg h Xk (b:=1) rfl p2 fun v33 h=>?_;apply iU h<;>intro h
  ·obtain rfl:=Qv h;exact ⟨11,rfl,(Frz.tuple' (.cons (Frz.agg' (f8_ (.cons (.nil _) (.cons (.p _) (.cons (.nil _) (Za (f4_ (.cons (.nil _) (f2_ (.cons (.nil _) (.cons (.nil _) (.cons (.nil _) (Za (f2_ (f1_ (.cons (.nil _) .nil)))))))))))))))) p1))⟩
  refine cRg h Q37 (b:=11) rfl p2 fun v36 h=>?_;apply iU h<;>intro h
  ·refine cRg h Q1r (b:=12) rfl (.cons (.p _) (.cons (Frz.agg' (f8_ (.cons (.nil _) (.cons (.p _) (.cons (.nil _) (Za (f4_ (.cons (.nil _) (f2_ (.cons (.nil _) (.cons (.nil _) (.cons (.nil _) (Za (f2_ (f1_ (.cons (.nil _) .nil)))))))))))))))) .nil)) fun v39 h=>?_;apply iU h<;>intro h
   ·obtain rfl:=Qv h;exact ⟨13,rfl,(Frz.tuple' (.cons (Frz.agg' (f8_ (.cons (.nil _) (.cons (.p _) (.cons (.nil _) (Za (f4_ (.cons (.nil _) (f2_ (.cons (.nil _) (.cons (.nil _) (.cons (.nil _) (Za (f2_ (f1_ (.cons (.nil _) .nil)))))))))))))))) p1))⟩
   obtain rfl:=Qv h;exact ⟨13,rfl,(Frz.tuple' (.cons (Frz.agg' (f8_ (.cons (.nil _) (.cons (.p _) (.cons (.nil _) (Za (f4_ (.cons (.nil _) (f2_ (.cons (.nil _) (.cons (.nil _) (.cons (.nil _) (Za (f2_ (f1_ (.cons (.nil _) .nil)))))))))))))))) p1))⟩
  refine cRg h Q1r (b:=12) rfl (.cons (.p _) (.cons (Frz.agg' (f8_ (.cons (.nil _) (.cons (.p _) (.cons (.nil _) (Za (f4_ (.cons (.nil _) (f2_ (.cons (.nil _) (.cons (.nil _) (.cons (.nil _) (Za (f2_ (f1_ (.cons (.nil _) .nil)))))))))))))))) .nil)) fun v42 h=>?_;apply iU h<;>intro h
  ·obtain rfl:=Qv h;exact ⟨13,rfl,(Frz.tuple' (.cons (Frz.agg' (f8_ (.cons (.nil _) (.cons (.p _) (.cons (.nil _) (Za (f4_ (.cons (.nil _) (f2_ (.cons (.nil _) (.cons (.nil _) (.cons (.nil _) (Za (f2_ (f1_ (.cons (.nil _) .nil)))))))))))))))) p1))⟩
  obtain rfl:=Qv h;exact ⟨13,rfl,(Frz.tuple' (.cons (Frz.agg' (f8_ (.cons (.nil _) (.cons (.p _) (.cons (.nil _) (Za (f4_ (.cons (.nil _) (f2_ (.cons (.nil _) (.cons (.nil _) (.cons (.nil _) (Za (f2_ (f1_ (.cons (.nil _) .nil)))))))))))))))) p1))⟩
 refine ifO h (fun hc45 h=>?_) (fun hc45 h=>?_)
 ·refine cP h Vy (.cons (Frz.agg' (Za (Za (Za (f2_ (f1_ (.cons (.p _) p5))))))) .nil) fun v46 h=>?_;apply iU h<;>intro h
  ·obtain rfl:=Qv h;exact ⟨1,rfl,(Frz.tuple' (.cons (Frz.agg' (f8_ (.cons (.nil _) (.cons (.p _) (.cons (.nil _) (Za (f4_ (.cons (.nil _) (f2_ (.cons (.nil _) (.cons (.nil _) (.cons (.nil _) (Za (f2_ (f1_ (.cons (.nil _) .nil)))))))))))))))) p1))⟩
  refine ifF (Qyw hc45 (by decide)) ?_;apply iU h<;>intro h
  ·refine cP h Gz (.cons (Frz.agg' (Za (Za (Za (f2_ (f1_ (.cons (.p _) p5))))))) .nil) fun v50 h=>?_;obtain rfl:=Qv h;exact ⟨1,rfl,(Frz.tuple' (.cons (Frz.agg' (Za (Za (Za (f2_ (f1_ (.cons (.p _) p5))))))) p1))⟩
  apply iU h<;>intro h
  ·obtain rfl:=Qv h;exact ⟨1,rfl,(Frz.tuple' (.cons (Frz.agg' (f8_ (.cons (.nil _) (.cons (.p _) (.cons (.nil _) (Za (f4_ (.cons (.nil _) (f2_ (.cons (.nil _) (.cons (.nil _) (.cons (.nil _) (Za (f2_ (f1_ (.cons (.nil _) .nil)))))))))))))))) p1))⟩
  refine Qf k29 ?_;apply iU h<;>intro h
  ·obtain rfl:=Qv h;exact ⟨1,rfl,(Frz.tuple' (.cons (Frz.agg' (f8_ (.cons (.nil _) (.cons (.p _) (.cons (.nil _) (Za (f4_ (.cons (.nil _) (f2_ (.cons (.nil _) (.cons (.nil _) (.cons (.nil _) (Za (f2_ (f1_ (.cons (.nil _) .nil)))))))))))))))) p1))⟩
  apply iU h<;>intro h
  ·refine Qf k53 ?_;obtain rfl:=Qv h;exact ⟨1,rfl,(Frz.tuple' (.cons (Frz.agg' (f8_ (.cons (.nil _) (.cons (.p _) (.cons (.nil _) (Za (f4_ (.cons (.nil _) (f2_ (.cons (.nil _) (.cons (.nil _) (.cons (.nil _) (Za (f2_ (f1_ (.cons (.nil _) .nil)))))))))))))))) p1))⟩
  refine Qf k53 ?_;obtain rfl:=Qv h;exact ⟨1,rfl,(Frz.tuple' (.cons (Frz.agg' (f8_ (.cons (.nil _) (.cons (.p _) (.cons (.nil _) (Za (f4_ (.cons (.nil _) (f2_ (.cons (.nil _) (.cons (.nil _) (.cons (.nil _) (Za (f2_ (f1_ (.cons (.nil _) .nil)))))))))))))))) p1))⟩
 obtain rfl:=Qv h;exact ⟨1,rfl,(Frz.tuple' (.cons (Frz.agg' (f8_ (.cons (.nil _) (.cons (.p _) (.cons (.nil _) (Za (f4_ (.cons (.nil _) (f2_ (.cons (.nil _) (.cons (.nil _) (.cons (.nil _) (Za (f2_ (f1_ (.cons (.nil _) .nil)))))))))))))))) p1))⟩
def Zc (N:Nat) (R0:Reg) (client:List UInt8) (e:Qc) (proto:Int):Option ((Bool)×Reg):=
 (Zl N R0 client e proto).bind fun v1=>
 some ((Q5 .eql v1.1.2 0),v1.2)
theorem Yc {N} {R0} {client} {e} {proto} {r} (h:Zc N R0 client e proto=some r):Q2x Tryz.prog G1 11 R0 [.str client,.agg (Qc.cells e),.int .i64 proto] (.bool r.1) r.2:=by
 refine Q9f k11 ?_;unfold Zc at h;rw [cX] at h;refine cRg h X1 (b:=1) rfl (.cons (.p _) (.cons (Frz.agg' (Za (Za (Za (f2_ (f1_ (.cons (.p _) p5))))))) p1)) fun v1 h=>?_;obtain rfl:=Qv h;exact ⟨3,rfl,(.p _)⟩
def X0 (N:Nat) (a:List Zq) (b:List Zq):Nat→Int→Option Bool
 | 0,_=>none
 | n+1,i17=>
  cond (Q5 .lss i17 ((Q9 Zq.cells a).length:Int))
  ((idx a i17).bind fun y19=>
  (idx b i17).bind fun y21=>
  cond (!(((y19.ID:Int) == y21.ID)&&(((y19.N':Int) == y21.N')&&(((y19.Text:List UInt8) == y21.Text)&&(((y19.Value:List UInt8) == y21.Value)&&true)))))
  (some false)
  (X0 N a b n (wrap .i64 (i17+1))))
  (some true)
def X9 (N:Nat) (a:List Zq) (b:List Zq):Option Bool:=
 cond (Q5 .neq ((Q9 Zq.cells a).length:Int) ((Q9 Zq.cells b).length:Int))
 (some false)
 (X0 N a b N 0)
theorem Us {N} {a} {b} {r} (h:X9 N a b=some r):pU 33 [.slice 4 (Q9 Zq.cells a),.slice 4 (Q9 Zq.cells b)] (.bool r):=by
 refine Q3 k33 ?_;unfold X9 at h;rw [cX] at h;refine iL h fun h=>?_;refine lpH (τ:=Int) (fun i17=>(.p (.slice 4 (Q9 Zq.cells a)) :: .p (.slice 4 (Q9 Zq.cells b))::a2 (.any::iI i17::a16 (a4 ([]))):List AV)) (fun n0 i17=>X0 N a b n0 i17) (0) h fun n0 i17 h=>?_
 first | rw [X0] at h | simp only [X0] at h
 rw [cX] at h;refine iR h fun h=>?_;refine Qk ?_;refine xR h fun y19 h=>?_;refine xR h fun y21 h=>?_;refine iL h fun h=>?_;show Exists _;exact ⟨(n0,(wrap .i64 (i17+1))),h,Lg _,(fun i=>i),Yr⟩
def X6 (N:Nat) (a:List V0) (b:List V0):Nat→Int→Option Bool
 | 0,_=>none
 | n+1,i17=>
  cond (Q5 .lss i17 ((Q9 V0.cells a).length:Int))
  ((idx a i17).bind fun y19=>
  (idx b i17).bind fun y21=>
  cond (!(((y19.Radius:Int) == y21.Radius)&&(((y19.Node:List UInt8) == y21.Node)&&true)))
  (some false)
  (X6 N a b n (wrap .i64 (i17+1))))
  (some true)
def V1 (N:Nat) (a:List V0) (b:List V0):Option Bool:=
 cond (Q5 .neq ((Q9 V0.cells a).length:Int) ((Q9 V0.cells b).length:Int))
 (some false)
 (X6 N a b N 0)
theorem Q4h {N} {a} {b} {r} (h:V1 N a b=some r):pU 34 [.slice 2 (Q9 V0.cells a),.slice 2 (Q9 V0.cells b)] (.bool r):=by
 refine Q3 k34 ?_;unfold V1 at h;rw [cX] at h;refine iL h fun h=>?_;refine lpH (τ:=Int) (fun i17=>(.p (.slice 2 (Q9 V0.cells a)) :: .p (.slice 2 (Q9 V0.cells b))::a2 (.any::iI i17::a16 (a4 ([]))):List AV)) (fun n0 i17=>X6 N a b n0 i17) (0) h fun n0 i17 h=>?_
 first | rw [X6] at h | simp only [X6] at h
 rw [cX] at h;refine iR h fun h=>?_;refine Qk ?_;refine xR h fun y19 h=>?_;refine xR h fun y21 h=>?_;refine iL h fun h=>?_;show Exists _;exact ⟨(n0,(wrap .i64 (i17+1))),h,Lg _,(fun i=>i),Yr⟩
def X4 (N:Nat) (a:List Int) (b:List Int):Nat→Int→Option Bool
 | 0,_=>none
 | n+1,i17=>
  cond (Q5 .lss i17 ((Q9 (cI .i64) a).length:Int))
  ((idx a i17).bind fun y19=>
  (idx b i17).bind fun y21=>
  cond (Q5 .neq y19 y21)
  (some false)
  (X4 N a b n (wrap .i64 (i17+1))))
  (some true)
def V5 (N:Nat) (a:List Int) (b:List Int):Option Bool:=
 cond (Q5 .neq ((Q9 (cI .i64) a).length:Int) ((Q9 (cI .i64) b).length:Int))
 (some false)
 (X4 N a b N 0)
theorem Q4s {N} {a} {b} {r} (h:V5 N a b=some r):pU 76 [.slice 1 (Q9 (cI .i64) a),.slice 1 (Q9 (cI .i64) b)] (.bool r):=by
 refine Q3 k76 ?_;unfold V5 at h;rw [cX] at h;refine iL h fun h=>?_;refine lpH (τ:=Int) (fun i17=>(.p (.slice 1 (Q9 (cI .i64) a)) :: .p (.slice 1 (Q9 (cI .i64) b))::a2 (.any::iI i17::a16 (a4 ([]))):List AV)) (fun n0 i17=>X4 N a b n0 i17) (0) h fun n0 i17 h=>?_
 first | rw [X4] at h | simp only [X4] at h
 rw [cX] at h;refine iR h fun h=>?_;refine Qk ?_;refine xR h fun y19 h=>?_;refine xR h fun y21 h=>?_;refine iL h fun h=>?_;show Exists _;exact ⟨(n0,(wrap .i64 (i17+1))),h,Lg _,(fun i=>i),Yr⟩
def Yg (N:Nat) (a:List Zb) (b:List Zb):Nat→Int→Option Bool
 | 0,_=>none
 | n+1,i17=>
  cond (Q5 .lss i17 ((Q9 Zb.cells a).length:Int))
  ((idx a i17).bind fun y19=>
  (idx b i17).bind fun y21=>
  cond (!(((y19.Topic:List UInt8) == y21.Topic)&&(((y19.QoS:Int) == y21.QoS)&&(((y19.NoLocal:Bool) == y21.NoLocal)&&(((y19.AsPublished:Bool) == y21.AsPublished)&&(((y19.Handling:Int) == y21.Handling)&&true))))))
  (some false)
  (Yg N a b n (wrap .i64 (i17+1))))
  (some true)
def Xx (N:Nat) (a:List Zb) (b:List Zb):Option Bool:=
 cond (Q5 .neq ((Q9 Zb.cells a).length:Int) ((Q9 Zb.cells b).length:Int))
 (some false)
 (Yg N a b N 0)
theorem Q2v {N} {a} {b} {r} (h:Xx N a b=some r):pU 77 [.slice 5 (Q9 Zb.cells a),.slice 5 (Q9 Zb.cells b)] (.bool r):=by
 refine Q3 k77 ?_;unfold Xx at h;rw [cX] at h;refine iL h fun h=>?_;refine lpH (τ:=Int) (fun i17=>(.p (.slice 5 (Q9 Zb.cells a)) :: .p (.slice 5 (Q9 Zb.cells b))::a2 (.any::iI i17::a16 (a4 ([]))):List AV)) (fun n0 i17=>Yg N a b n0 i17) (0) h fun n0 i17 h=>?_
 first | rw [Yg] at h | simp only [Yg] at h
 rw [cX] at h;refine iR h fun h=>?_;refine Qk ?_;refine xR h fun y19 h=>?_;refine xR h fun y21 h=>?_;refine iL h fun h=>?_;show Exists _;exact ⟨(n0,(wrap .i64 (i17+1))),h,Lg _,(fun i=>i),Yr⟩
def W3 (N:Nat) (a:Ql) (b:Ql):Option Bool:=
 cond (Q0m .neq a.Will.Topic b.Will.Topic)
 (some false)
 (cond (Q0m .neq a.Will.Payload b.Will.Payload)
 (some false)
 (cond (Q5 .neq a.Will.QoS b.Will.QoS)
 (some false)
 (cond (!(a.Will.Retain == b.Will.Retain))
 (some false)
 ((X9 N a.Will.Props b.Will.Props).bind fun v5=>
 cond (!v5)
 (some false)
 (cond (Q5 .neq a.Kind b.Kind)
 (some false)
 (cond (!(a.Dup == b.Dup))
 (some false)
 (cond (!(a.Retain == b.Retain))
 (some false)
 (cond (Q5 .neq a.QoS b.QoS)
 (some false)
 (cond (Q5 .neq a.ID b.ID)
 (some false)
 (cond (Q0m .neq a.Topic b.Topic)
 (some false)
 (cond (Q0m .neq a.Payload b.Payload)
 (some false)
 (cond (!(a.Clean == b.Clean))
 (some false)
 (cond (Q5 .neq a.KeepAlive b.KeepAlive)
 (some false)
 (cond (Q0m .neq a.Client b.Client)
 (some false)
 (cond (!(a.HasUser == b.HasUser))
 (some false)
 (cond (Q0m .neq a.User b.User)
 (some false)
 (cond (!(a.HasPass == b.HasPass))
 (some false)
 (cond (Q0m .neq a.Pass b.Pass)
 (some false)
 (cond (!(a.HasWill == b.HasWill))
 (some false)
 (cond (!(a.Session == b.Session))
 (some false)
 (cond (Q5 .neq a.Code b.Code)
 (some false)
 ((V5 N a.Codes b.Codes).bind fun v25=>
 cond v25
 ((Xx N a.Filters b.Filters).bind fun v28=>
 cond v28
 ((X9 N a.Props b.Props).bind fun v31=>
 some v31)
 (some false))
 (some false)))))))))))))))))))))))
theorem Q0g {N} {a} {b} {r} (h:W3 N a b=some r):pU 35 [.agg (Ql.cells a),.agg (Ql.cells b)] (.bool r):=by
 refine Q3 k35 ?_;unfold W3 at h;rw [cX,cY] at h;refine Qk ?_;refine iL h fun h=>?_;refine iL h fun h=>?_;refine iL h fun h=>?_;refine iL h fun h=>?_;refine cP h Us p2 fun v5 h=>?_;refine iL h fun h=>?_;refine iL h fun h=>?_;refine iL h fun h=>?_;refine iL h fun h=>?_;refine iL h fun h=>?_;refine iL h fun h=>?_;refine iL h fun h=>?_;refine iL h fun h=>?_;refine iL h fun h=>?_;refine iL h fun h=>?_;refine iL h fun h=>?_;refine iL h fun h=>?_;refine iL h fun h=>?_;refine iL h fun h=>?_;refine iL h fun h=>?_;refine iL h fun h=>?_;refine iL h fun h=>?_;refine iL h fun h=>?_;refine cP h Q4s p2 fun v25 h=>?_;refine iR h fun h=>?_;refine cP h Q2v p2 fun v28 h=>?_;refine iR h fun h=>?_;refine cP h Us p2 fun v31 h=>?_;cases h;exact (.p _)
def Yi (rz:Q2→Q2→Option Bool) (N:Nat) (a:Q2) (b:Q2):Nat→Int→Option Bool
 | 0,_=>none
 | n+1,i22=>
  cond (Q5 .lss i22 ((Q2.rows a.Items).length:Int))
  ((idx a.Items i22).bind fun y24=>
  (idx b.Items i22).bind fun y26=>
  (rz y24 y26).bind fun v28=>
  cond (!v28)
  (some false)
  (Yi rz N a b n (wrap .i64 (i22+1))))
  (some true)
def Uc (rz:Q2→Q2→Option Bool) (N:Nat) (a:Q2) (b:Q2):Option Bool:=
 cond (Q5 .neq a.Kind b.Kind)
 (some false)
 (cond (Q5 .neq a.N' b.N')
 (some false)
 (cond (Q0m .neq a.Text b.Text)
 (some false)
 (cond (Q5 .neq ((Q2.rows a.Items).length:Int) ((Q2.rows b.Items).length:Int))
 (some false)
 (Yi rz N a b N 0))))
theorem Q4l {rz:Q2→Q2→Option Bool} (hy1:∀ {a} {b} {r},rz a b=some r→pU 78 [.agg (Q2.cells a),.agg (Q2.cells b)] (.bool r)) {N} {a} {b} {r} (h:Uc rz N a b=some r):pU 78 [.agg (Q2.cells a),.agg (Q2.cells b)] (.bool r):=by
 refine Q3 k78 ?_;unfold Uc at h;rw [cX,cY] at h;refine iL h fun h=>?_;refine iL h fun h=>?_;refine iL h fun h=>?_;refine iL h fun h=>?_;refine lpH (τ:=Int) (fun i22=>(.any :: .any :: .ptr 0 0 :: .ptr 1 0 :: .any::iI i22::a16 (a16 (a8 (a4 (a2 (.any :: []))))):List AV)) (fun n0 i22=>Yi rz N a b n0 i22) (0) h fun n0 i22 h=>?_
 first | rw [Yi] at h | simp only [Yi] at h
 rw [cX] at h;refine iR h fun h=>?_;refine Qk ?_;refine Q2.xR h fun y24 h=>?_;refine Q2.xR h fun y26 h=>?_;refine cD h hy1 (.cons q4 (.cons q4 .nil)) fun v28 h=>?_;refine iL h fun h=>?_;show Exists _;exact ⟨(n0,(wrap .i64 (i22+1))),h,Lg _,(fun i=>i),Yr⟩
def Xa:Nat→Q2→Q2→Option Bool
 | 0=>fun _ _=>none
 | N+1=>Uc (Xa N) N
theorem Q4d {N} {a} {b} {r} (h:Xa N a b=some r):pU 78 [.agg (Q2.cells a),.agg (Q2.cells b)] (.bool r):=by
 induction N generalizing a b r with
 | zero=>simp [Xa] at h
 | succ N ih=>exact Q4l (fun h=>ih h) h
def Zu (N:Nat) (a:Zi) (b:Zi):Nat→Int→Option Bool
 | 0,_=>none
 | n+1,i22=>
  cond (Q5 .lss i22 ((Q2.rows a.Values).length:Int))
  ((idx a.Values i22).bind fun y24=>
  (idx b.Values i22).bind fun y26=>
  (Xa N y24 y26).bind fun v28=>
  cond (!v28)
  (some false)
  (Zu N a b n (wrap .i64 (i22+1))))
  (some true)
def W5 (N:Nat) (a:Zi) (b:Zi):Option Bool:=
 cond (Q5 .neq a.Type' b.Type')
 (some false)
 (cond (Q5 .neq a.Channel b.Channel)
 (some false)
 (cond (Q0m .neq a.Ext b.Ext)
 (some false)
 (cond (Q5 .neq ((Q2.rows a.Values).length:Int) ((Q2.rows b.Values).length:Int))
 (some false)
 (Zu N a b N 0))))
theorem Q07 {N} {a} {b} {r} (h:W5 N a b=some r):pU 36 [.agg (Zi.cells a),.agg (Zi.cells b)] (.bool r):=by
 refine Q3 k36 ?_;unfold W5 at h;rw [cX,cY] at h;refine iL h fun h=>?_;refine iL h fun h=>?_;refine iL h fun h=>?_;refine iL h fun h=>?_;refine lpH (τ:=Int) (fun i22=>(.any :: .any :: .ptr 0 0 :: .ptr 1 0 :: .any::iI i22::a16 (a16 (a8 (a4 (a2 (.any :: []))))):List AV)) (fun n0 i22=>Zu N a b n0 i22) (0) h fun n0 i22 h=>?_
 first | rw [Zu] at h | simp only [Zu] at h
 rw [cX] at h;refine iR h fun h=>?_;refine Qk ?_;refine Q2.xR h fun y24 h=>?_;refine Q2.xR h fun y26 h=>?_;refine cD h Q4d (.cons q4 (.cons q4 .nil)) fun v28 h=>?_;refine iL h fun h=>?_;show Exists _;exact ⟨(n0,(wrap .i64 (i22+1))),h,Lg _,(fun i=>i),Yr⟩
def Qo (N:Nat) (a:Qc) (b:Qc):Option Bool:=
 cond (Q5 .eql a.Proto b.Proto)
 (cond (Q5 .eql a.Kind b.Kind)
 (cond (Q0m .eql a.Topic b.Topic)
 (cond (Q0m .eql a.Payload b.Payload)
 (cond (Q5 .eql a.QoS b.QoS)
 (cond (a.Retain == b.Retain)
 (cond (a.Dup == b.Dup)
 (cond (Q5 .eql a.ID b.ID)
 ((X9 N a.Props b.Props).bind fun v9=>
 cond v9
 (cond (Q5 .eql a.Type' b.Type')
 ((V1 N a.Hops b.Hops).bind fun v13=>
 cond v13
 (cond (Q5 .eql a.Channel b.Channel)
 ((W3 N a.Packet b.Packet).bind fun v17=>
 cond v17
 (cond (((a.Msg.Type':Int) == b.Msg.Type')&&(((a.Msg.Flags.Dup:Bool) == b.Msg.Flags.Dup)&&(((a.Msg.Flags.QoS:Int) == b.Msg.Flags.QoS)&&(((a.Msg.Flags.Retain:Bool) == b.Msg.Flags.Retain)&&(((a.Msg.Flags.Will:Bool) == b.Msg.Flags.Will)&&(((a.Msg.Flags.Clean:Bool) == b.Msg.Flags.Clean)&&(((a.Msg.Flags.Type':Int) == b.Msg.Flags.Type')&&(((a.Msg.Gateway:Int) == b.Msg.Gateway)&&(((a.Msg.Radius:Int) == b.Msg.Radius)&&(((a.Msg.Time:Int) == b.Msg.Time)&&(((a.Msg.Timed:Bool) == b.Msg.Timed)&&(((a.Msg.TopicID:Int) == b.Msg.TopicID)&&(((a.Msg.MsgID:Int) == b.Msg.MsgID)&&(((a.Msg.Code:Int) == b.Msg.Code)&&(((a.Msg.Name:List UInt8) == b.Msg.Name)&&(((a.Msg.Data:List UInt8) == b.Msg.Data)&&true))))))))))))))))
 ((W5 N a.Frame b.Frame).bind fun v21=>
 some v21)
 (some false))
 (some false))
 (some false))
 (some false))
 (some false))
 (some false))
 (some false))
 (some false))
 (some false))
 (some false))
 (some false))
 (some false))
 (some false))
 (some false)
theorem X5 {N} {a} {b} {r} (h:Qo N a b=some r):pU 12 [.agg (Qc.cells a),.agg (Qc.cells b)] (.bool r):=by
 refine Q3 k12 ?_;unfold Qo at h;rw [cX,cY] at h;refine iR h fun h=>?_;refine iR h fun h=>?_;refine iR h fun h=>?_;refine iR h fun h=>?_;refine iR h fun h=>?_;refine iR h fun h=>?_;refine iR h fun h=>?_;refine iR h fun h=>?_;refine cP h Us p2 fun v9 h=>?_;refine iR h fun h=>?_;refine iR h fun h=>?_;refine cP h Q4h p2 fun v13 h=>?_;refine iR h fun h=>?_;refine iR h fun h=>?_;refine cP h Q0g (.cons (Frz.agg' (Za (f2_ (f1_ (.cons (.p _) p5))))) (.cons (Frz.agg' (Za (f2_ (f1_ (.cons (.p _) p5))))) .nil)) fun v17 h=>?_;refine iR h fun h=>?_;refine Qlh (ks := [0,2,0,2,2,2,0,0,0,0,2,0,0,0,1,1]) (xs := [iI a.Msg.Type',.p (.bool a.Msg.Flags.Dup),iI a.Msg.Flags.QoS,.p (.bool a.Msg.Flags.Retain),.p (.bool a.Msg.Flags.Will),.p (.bool a.Msg.Flags.Clean),iI a.Msg.Flags.Type',iI a.Msg.Gateway,iI a.Msg.Radius,iI a.Msg.Time,.p (.bool a.Msg.Timed),iI a.Msg.TopicID,iI a.Msg.MsgID,iI a.Msg.Code,iS a.Msg.Name,iS a.Msg.Data]) (ys := [iI b.Msg.Type',.p (.bool b.Msg.Flags.Dup),iI b.Msg.Flags.QoS,.p (.bool b.Msg.Flags.Retain),.p (.bool b.Msg.Flags.Will),.p (.bool b.Msg.Flags.Clean),iI b.Msg.Flags.Type',iI b.Msg.Gateway,iI b.Msg.Radius,iI b.Msg.Time,.p (.bool b.Msg.Timed),iI b.Msg.TopicID,iI b.Msg.MsgID,iI b.Msg.Code,iS b.Msg.Name,iS b.Msg.Data]) (b:=(((a.Msg.Type':Int) == b.Msg.Type')&&(((a.Msg.Flags.Dup:Bool) == b.Msg.Flags.Dup)&&(((a.Msg.Flags.QoS:Int) == b.Msg.Flags.QoS)&&(((a.Msg.Flags.Retain:Bool) == b.Msg.Flags.Retain)&&(((a.Msg.Flags.Will:Bool) == b.Msg.Flags.Will)&&(((a.Msg.Flags.Clean:Bool) == b.Msg.Flags.Clean)&&(((a.Msg.Flags.Type':Int) == b.Msg.Flags.Type')&&(((a.Msg.Gateway:Int) == b.Msg.Gateway)&&(((a.Msg.Radius:Int) == b.Msg.Radius)&&(((a.Msg.Time:Int) == b.Msg.Time)&&(((a.Msg.Timed:Bool) == b.Msg.Timed)&&(((a.Msg.TopicID:Int) == b.Msg.TopicID)&&(((a.Msg.MsgID:Int) == b.Msg.MsgID)&&(((a.Msg.Code:Int) == b.Msg.Code)&&(((a.Msg.Name:List UInt8) == b.Msg.Name)&&(((a.Msg.Data:List UInt8) == b.Msg.Data)&&true))))))))))))))))) rfl ?_;refine iR h fun h=>?_;refine cP h Q07 (.cons q4 (.cons q4 .nil)) fun v21 h=>?_;cases h;exact (.p _)
def Yo (N:Nat) (e:Qc):Option Bool:=
 (W3 N e.Packet (⟨0,false,false,0,0,[],[],false,0,[],false,[],false,[],false,(⟨[],[],0,false,[]⟩:Wj),false,0,[],[],[]⟩:Ql)).bind fun v1=>
 cond v1
 (cond (((e.Msg.Type':Int) == 0)&&(((e.Msg.Flags.Dup:Bool) == false)&&(((e.Msg.Flags.QoS:Int) == 0)&&(((e.Msg.Flags.Retain:Bool) == false)&&(((e.Msg.Flags.Will:Bool) == false)&&(((e.Msg.Flags.Clean:Bool) == false)&&(((e.Msg.Flags.Type':Int) == 0)&&(((e.Msg.Gateway:Int) == 0)&&(((e.Msg.Radius:Int) == 0)&&(((e.Msg.Time:Int) == 0)&&(((e.Msg.Timed:Bool) == false)&&(((e.Msg.TopicID:Int) == 0)&&(((e.Msg.MsgID:Int) == 0)&&(((e.Msg.Code:Int) == 0)&&(((e.Msg.Name:List UInt8) == [])&&(((e.Msg.Data:List UInt8) == [])&&true))))))))))))))))
 ((W5 N e.Frame (⟨0,0,[],[]⟩:Zi)).bind fun v5=>
 some v5)
 (some false))
 (some false)
theorem Q0j {N} {e} {r} (h:Yo N e=some r):pU 40 [.agg (Qc.cells e)] (.bool r):=by
 refine Q3 k40 ?_;unfold Yo at h;refine cP h Q0g (.cons (Frz.agg' (Za (f2_ (f1_ (.cons (.p _) p5))))) (.cons (Frz.agg' (Za (f2_ (f1_ (.cons (.nil _) (f2_ (.cons (.nil _) (.cons (.nil _) (.cons (.nil _) .nil))))))))) .nil)) fun v1 h=>?_;refine iR h fun h=>?_;refine Qlh (ks := [0,2,0,2,2,2,0,0,0,0,2,0,0,0,1,1]) (xs := [iI e.Msg.Type',.p (.bool e.Msg.Flags.Dup),iI e.Msg.Flags.QoS,.p (.bool e.Msg.Flags.Retain),.p (.bool e.Msg.Flags.Will),.p (.bool e.Msg.Flags.Clean),iI e.Msg.Flags.Type',iI e.Msg.Gateway,iI e.Msg.Radius,iI e.Msg.Time,.p (.bool e.Msg.Timed),iI e.Msg.TopicID,iI e.Msg.MsgID,iI e.Msg.Code,iS e.Msg.Name,iS e.Msg.Data]) (ys := [iI 0,.p (.bool false),iI 0,.p (.bool false),.p (.bool false),.p (.bool false),iI 0,iI 0,iI 0,iI 0,.p (.bool false),iI 0,iI 0,iI 0,iS [],iS []]) (b:=(((e.Msg.Type':Int) == 0)&&(((e.Msg.Flags.Dup:Bool) == false)&&(((e.Msg.Flags.QoS:Int) == 0)&&(((e.Msg.Flags.Retain:Bool) == false)&&(((e.Msg.Flags.Will:Bool) == false)&&(((e.Msg.Flags.Clean:Bool) == false)&&(((e.Msg.Flags.Type':Int) == 0)&&(((e.Msg.Gateway:Int) == 0)&&(((e.Msg.Radius:Int) == 0)&&(((e.Msg.Time:Int) == 0)&&(((e.Msg.Timed:Bool) == false)&&(((e.Msg.TopicID:Int) == 0)&&(((e.Msg.MsgID:Int) == 0)&&(((e.Msg.Code:Int) == 0)&&(((e.Msg.Name:List UInt8) == [])&&(((e.Msg.Data:List UInt8) == [])&&true))))))))))))))))) rfl ?_;refine iR h fun h=>?_;refine cP h Q07 (.cons q4 (.cons q4n .nil)) fun v5 h=>?_;cases h;exact (.p _)
def Xn (_N:Nat) (k:Int) (l:List Zq):Option Int:=cond (Nat.beq l.length 0&&decide (k=3)) (some 0) none
theorem Q3q {N k l r} (h:Xn N k l=some r):pU 41 [.int .i64 k,.slice 4 (Q9 Zq.cells l)] (.int .i64 r):=by
 unfold Xn at h
 cases hq:(Nat.beq l.length 0&&decide (k=3)) with
 | false=>rw [hq] at h;cases h
 | true=>
  rw [hq] at h;cases h;rw [Lb] at hq;have h1:l = []:=List.length_eq_zero_iff.1 (Ni hq.1);have h2:=of_decide_eq_true hq.2;subst h1;subst h2;exact Q1l Qe8 (N:=4000) (d:=60) (by kernel_rfl)
def Y5 (N:Nat) (s_0:List UInt8):Nat→Int→Int→Option Int
 | 0,_,_=>none
 | n+1,n9,i10=>
  cond (Q5 .lss i10 (s_0.length:Int))
  ((idx s_0 i10).bind fun b12=>
  Y5 N s_0 n (orI .u64 (Qc0 .u64 n9 8) (wrap .u64 (b12.toNat:Int))) (wrap .i64 (i10+1)))
  (some n9)
def We (N:Nat) (s_0:List UInt8):Option Int:=
 Y5 N s_0 N 0 0
theorem Q36 {N} {s_0} {r} (h:We N s_0=some r):pU 105 [.str s_0] (.int .u64 r):=by
 refine Q3 Z38 ?_;unfold We at h;refine lpH (τ:=Int×Int) (fun ⟨n9,i10⟩=>(iS s_0 :: .any :: .any::iW n9::iI i10::a8 (a4 (a2 ([]))):List AV)) (fun n0 ⟨n9,i10⟩=>Y5 N s_0 n0 n9 i10) (0,0) h fun n0 ⟨n9,i10⟩ h=>?_
 first | rw [Y5] at h | simp only [Y5] at h
 rw [cX] at h;refine iR h fun h=>?_;refine xB h fun b12 h=>?_;show Exists _;exact ⟨(n0,(orI .u64 (Qc0 .u64 n9 8) (wrap .u64 (b12.toNat:Int))),(wrap .i64 (i10+1))),h,Lg _,(fun i=>i),Yr⟩
def Wp (N:Nat) (name:List UInt8):Option (Int×Bool):=
 cond (Q5 .neq (name.length:Int) 2)
 (some (0,false))
 ((Yp N name).bind fun v2=>
 cond (!v2)
 (some (0,false))
 ((We N name).bind fun v5=>
 some ((wrap .i64 v5),true)))
theorem Q3z {N} {name} {r} (h:Wp N name=some r):pU 82 [.str name] (.tuple [.int .i64 r.1,.bool r.2]):=by
 refine Q3 k82 ?_;unfold Wp at h;rw [cX] at h;refine iL2 h fun h=>?_;refine cP h V7 p1 fun v2 h=>?_;refine iL2 h fun h=>?_;refine cP h Q36 p1 fun v5 h=>?_;obtain rfl:=Qv h;exact u2
def Qyj:List PV := [.int .i64 23,.bool false,.int .i64 0,.bool false,.bool false,.bool false,.int .i64 0,.int .i64 0,.int .i64 0,.int .i64 0,.bool false,.int .i64 0,.int .i64 0,.int .i64 0,.str [],.str []]
def Ji (_N:Nat) (m:Wh):Option (List UInt8×Int):=cond (Q74 (Wh.cells m) Qyj) (some ([2,23],0)) none
theorem Q41 {N m r} (h:Ji N m=some r):pU 179 [.agg (Wh.cells m)] (.tuple [.str r.1,.int .i64 r.2]):=by
 unfold Ji at h
 cases hq:Q74 (Wh.cells m) Qyj with
 | false=>rw [hq] at h;cases h
 | true=>rw [hq] at h;cases h;rw [Q21 _ _ hq];exact Q1l Qe8 (N:=4000) (d:=60) (by kernel_rfl)
end
end
end Go.Av
