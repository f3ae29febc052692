/- Part of the proof of CrossTexts: for every input the law returns true; no condition. -/
import Derived.Test.YtaokaobiihpkbaaGreatDoorLiftF1
set_option linter.all false
open Go.IntKind (wrap)
namespace Go.Av
noncomputable section
open Go.Proofs
set_option maxRecDepth 100000
set_option maxHeartbeats 4000000
attribute [local irreducible] Xk Qs Q7i Q68 Qph Qrf Qiq
section
def Vl (N:Nat) (m:Vi):Option ((List UInt8)×Int):=
 (Q1b N m).bind fun v1=>
 cond (Q5 .neq v1 0)
 (some ([],v1))
 ((Uy N m).bind fun v4=>
 (Wr N m.Type' (v4.length:Int)).bind fun v6=>
 cond (Q5 .neq v6.2 0)
 (some ([],v6.2))
 (cond (Nat.ble (v6.1.length+v4.length) 4611686018427387904) (some ((v6.1++v4),0)) none))
theorem Q5x {N} {m} {r} (h:Vl N m=some r):pU 157 [.agg (Vi.cells m)] (.tuple [.str r.1,.int .i64 r.2]):=by
 refine Q3 Z69 ?_;unfold Vl at h;rw [cX] at h;refine cP h Qb1 (.cons (Ar (f8_ (f2_ (.cons (.p _) p5)))) .nil) fun v1 h=>?_;refine iL2 h fun h=>?_;refine cP h Q0s (.cons (Ar (f8_ (f2_ (.cons (.p _) p5)))) .nil) fun v4 h=>?_;refine cP h Gk p2 fun v6 h=>?_;refine iL2 h fun h=>?_;refine kU h fun h=>?_;obtain rfl:=Qt h;exact u2
def Uo (N:Nat) (h_0:Wz):Option (List UInt8):=
 (Yf N (wrap .u64 (wrap .i64 (3+(h_0.Node.length:Int)))) 1).bind fun v1=>
 (Yf N 254 1).bind fun v3=>
 cond (Nat.ble (v1.length+v3.length) 4611686018427387904) ((Yf N (wrap .u64 h_0.Radius) 1).bind fun v6=>
 cond (Nat.ble ((v1++v3).length+v6.length) 4611686018427387904) (cond (Nat.ble (((v1++v3)++v6).length+h_0.Node.length) 4611686018427387904) (some (((v1++v3)++v6)++h_0.Node)) none) none) none
theorem Q2q {N} {h_0} {r} (h:Uo N h_0=some r):pU 158 [.agg (Wz.cells h_0)] (.str r):=by
 refine Q3 Zdf ?_;unfold Uo at h;refine Qi ?_;refine cD h Y4 p2 fun v1 h=>?_;refine cD h Y4 p2 fun v3 h=>?_;refine kU h fun h=>?_;refine cD h Y4 p2 fun v6 h=>?_;refine kU h fun h=>?_;refine kU h fun h=>?_;cases h;exact (.p _)
def Xr (N:Nat) (d:Qm) (l:Xd) (v26:(List UInt8)×Int):Nat→(List UInt8)→Int→Option ((List UInt8)×Int)
 | 0,_,_=>none
 | n+1,out43,s44=>
  cond (Q5 .lss s44 ((Q8 Wz.cells d.Hops).length:Int))
  ((idx d.Hops s44).bind fun y46=>
  (Uo N y46).bind fun v48=>
  cond (Nat.ble (out43.length+v48.length) 4611686018427387904) (Xr N d l v26 n (out43++v48) (wrap .i64 (s44+1))) none)
  (cond (Q5 .gtr (wrap .i64 ((out43.length:Int)+(v26.1.length:Int))) l.MaxPacket)
  (some ([],4))
  (cond (Nat.ble (out43.length+v26.1.length) 4611686018427387904) (some ((out43++v26.1),0)) none))
def Y6 (N:Nat) (d:Qm) (l:Xd) (v53:(List UInt8)×Int):Nat→(List UInt8)→Int→Option ((List UInt8)×Int)
 | 0,_,_=>none
 | n+1,out70,s71=>
  cond (Q5 .lss s71 ((Q8 Wz.cells d.Hops).length:Int))
  ((idx d.Hops s71).bind fun y73=>
  (Uo N y73).bind fun v75=>
  cond (Nat.ble (out70.length+v75.length) 4611686018427387904) (Y6 N d l v53 n (out70++v75) (wrap .i64 (s71+1))) none)
  (cond (Q5 .gtr (wrap .i64 ((out70.length:Int)+(v53.1.length:Int))) l.MaxPacket)
  (some ([],4))
  (cond (Nat.ble (out70.length+v53.1.length) 4611686018427387904) (some ((out70++v53.1),0)) none))
def Ys (N:Nat) (d:Qm) (l:Xd):Nat→Int→Option ((List UInt8)×Int)
 | 0,_=>none
 | n+1,s18=>
  cond (Q5 .lss s18 ((Q8 Wz.cells d.Hops).length:Int))
  ((idx d.Hops s18).bind fun y20=>
  (Jg N y20).bind fun v22=>
  cond v22
  (cond (Q5 .geq s18 0)
  (some ([],2))
  ((Vl N d.Msg).bind fun v26=>
  cond (Q5 .neq v26.2 0)
  (some ([],v26.2))
  (Xr N d l v26 N [] 0)))
  (Ys N d l n (wrap .i64 (s18+1))))
  ((Vl N d.Msg).bind fun v53=>
  cond (Q5 .neq v53.2 0)
  (some ([],v53.2))
  (Y6 N d l v53 N [] 0))
def Gw (N:Nat) (d:Qm) (l:Xd):Option ((List UInt8)×Int):=
 (Gv N l).bind fun v1=>
 cond (!v1)
 (some ([],2))
 (cond (Q5 .gtr ((Q8 Wz.cells d.Hops).length:Int) 4)
 (some ([],12))
 (Ys N d l N 0))
theorem Qa6 {N} {d} {l} {r} (h:Gw N d l=some r):pU 118 [.agg (Qm.cells d),.agg (Xd.cells l)] (.tuple [.str r.1,.int .i64 r.2]):=by
 refine Q3 Z42 ?_;unfold Gw at h;rw [cX] at h;refine cP h Qae (.cons q2 .nil) fun v1 h=>?_;refine iL2 h fun h=>?_;refine iL2 h fun h=>?_;refine Qe Zd4 ?_;refine Qe Z2j ?_;refine lpH (τ:=Int) (fun s18=>(.p (.slice 2 (Q8 Wz.cells d.Hops)) :: .p (.func (.func 155) [] [])::a4 (.any::iI ((Q8 Wz.cells d.Hops).length:Int)::iI s18::a8 (a2 ([]))):List AV)) (fun n0 s18=>Ys N d l n0 s18) (0) h fun n0 s18 h=>?_
 first | rw [Ys] at h | simp only [Ys] at h
 rw [cX] at h;apply iU h<;>intro h
 ·refine xR h fun y20 h=>?_;refine cP h Q87 (.cons q2 .nil) fun v22 h=>?_;apply iU h<;>intro h
  ·refine iL2 h fun h=>?_;refine cP h Q5x (.cons (Ar (f8_ (f2_ (.cons (.p _) p5)))) .nil) fun v26 h=>?_;refine iL2 h fun h=>?_;refine lpH (τ:=(List UInt8)×Int) (fun ⟨out43,s44⟩=>(a2 (.any :: .ptr 1 0 :: .any :: .any::iS v26.1 :: .any::iS out43::a16 (a4 (a2 (.p (.slice 2 (Q8 Wz.cells d.Hops))::iI ((Q8 Wz.cells d.Hops).length:Int)::iI s44::a16 (a2 (.any :: [])))))):List AV)) (fun n1 ⟨out43,s44⟩=>Xr N d l v26 n1 out43 s44) ([],0) h fun n1 ⟨out43,s44⟩ h=>?_
   first | rw [Xr] at h | simp only [Xr] at h
   rw [cX] at h;apply iU h<;>intro h
   ·refine xR h fun y46 h=>?_;refine cP h Q2q (.cons q2 .nil) fun v48 h=>?_;refine kU h fun h=>?_;show Exists _;exact ⟨(n1,(out43++v48),(wrap .i64 (s44+1))),h,Lg _,(fun i=>i),Yq⟩
   refine iL2 h fun h=>?_;refine kU h fun h=>?_;obtain rfl:=Qt h;exact u2
  show Exists _;exact ⟨(n0,(wrap .i64 (s18+1))),h,Lg _,(fun i=>i),Yq⟩
 refine dF ?_;refine cP h Q5x (.cons (Ar (f8_ (f2_ (.cons (.p _) p5)))) .nil) fun v53 h=>?_;refine iL2 h fun h=>?_;refine lpH (τ:=(List UInt8)×Int) (fun ⟨out70,s71⟩=>(a2 (.any :: .ptr 1 0 :: .any :: .any::iS v53.1 :: .any::iS out70::a16 (a4 (a2 (.p (.slice 2 (Q8 Wz.cells d.Hops))::iI ((Q8 Wz.cells d.Hops).length:Int)::iI s71::a16 (a2 (.any :: [])))))):List AV)) (fun n2 ⟨out70,s71⟩=>Y6 N d l v53 n2 out70 s71) ([],0) h fun n2 ⟨out70,s71⟩ h=>?_
 first | rw [Y6] at h | simp only [Y6] at h
 rw [cX] at h;apply iU h<;>intro h
 ·refine xR h fun y73 h=>?_;refine cP h Q2q (.cons q2 .nil) fun v75 h=>?_;refine kU h fun h=>?_;show Exists _;exact ⟨(n2,(out70++v75),(wrap .i64 (s71+1))),h,Lg _,(fun i=>i),Yq⟩
 refine iL2 h fun h=>?_;refine kU h fun h=>?_;obtain rfl:=Qt h;exact u2
def Yg (N:Nat) (d:Qm) (l:Xd):Option Int:=
 (Gw N d l).bind fun v1=>
 some v1.2
theorem Vp {N} {d} {l} {r} (h:Yg N d l=some r):pU 95 [.agg (Qm.cells d),.agg (Xd.cells l)] (.int .i64 r):=by
 refine Q3 k95 ?_;unfold Yg at h;refine cP h Qa6 (.cons (Ar (f8_ (f2_ (f1_ (.cons (.p _) p5))))) (.cons q2 .nil)) fun v1 h=>?_;cases h;exact (.p _)
def Q01 (_N:Nat):Option (Xd):=
 some (⟨1048576,32⟩:Xd)
theorem Q38 {N} {r} (h:Q01 N=some r):pU 98 [] (.agg (Xd.cells r)):=by
 refine Q3 k98 ?_;unfold Q01 at h;obtain rfl:=Qt h;exact q2
def Vm (_N:Nat) (n_0:Int) (low:Int) (high:Int):Option Bool:=
 cond (Q5 .geq n_0 low)
 (some (Q5 .leq n_0 high))
 (some false)
theorem Gh {N} {n_0} {low} {high} {r} (h:Vm N n_0 low high=some r):pU 60 [.int .i64 n_0,.int .i64 low,.int .i64 high] (.bool r):=by
 refine Q3 k60 ?_;unfold Vm at h;rw [cX] at h;exact iB h
def J5 (N:Nat) (e:Qa):Option Bool:=
 (Vm N e.Type' 0 2).bind fun v1=>
 cond (!v1)
 (some false)
 ((Q1c N e.Topic).bind fun v4=>
 cond (Q5 .eql e.Type' 2)
 (cond (!v4.2)
 (some false)
 ((Q01 N).bind fun v8=>
 (Yg N (⟨e.Hops,(⟨23,(⟨false,0,false,false,false,0⟩:Qv),0,0,0,false,0,0,0,[],[]⟩:Vi)⟩:Qm) v8).bind fun v10=>
 some (Q5 .eql v10 0)))
 ((Q01 N).bind fun v12=>
 (Yg N (⟨e.Hops,(⟨23,(⟨false,0,false,false,false,0⟩:Qv),0,0,0,false,0,0,0,[],[]⟩:Vi)⟩:Qm) v12).bind fun v14=>
 some (Q5 .eql v14 0)))
theorem Qbb {N} {e} {r} (h:J5 N e=some r):pU 65 [.agg (Qa.cells e)] (.bool r):=by
 refine Q3 k65 ?_;unfold J5 at h;rw [cX] at h;refine cP h Gh p3 fun v1 h=>?_;refine iL h fun h=>?_;refine cP h Q5u p1 fun v4 h=>?_;apply iU h<;>intro h
 ·refine iL h fun h=>?_;refine Qi ?_;refine cD h Q38 p0 fun v8 h=>?_;refine cD h Vp (.cons (Ar (f8_ (f2_ (f1_ (.cons (.p _) p5))))) p1) fun v10 h=>?_;cases h;exact (.p _)
 refine Qi ?_;refine cD h Q38 p0 fun v12 h=>?_;refine cD h Vp (.cons (Ar (f8_ (f2_ (f1_ (.cons (.p _) p5))))) p1) fun v14 h=>?_;cases h;exact (.p _)
def J0 (N:Nat) (e:Qa):Option Bool:=
 (Q3h N e.Packet (⟨0,false,false,0,0,[],[],false,0,[],false,[],false,[],false,(⟨[],[],0,false,[]⟩:U5),false,0,[],[],[]⟩:Qp)).bind fun v1=>
 cond v1
 (cond (((e.Msg.Type':Int) == 0)&&(((e.Msg.Flags.Dup:Bool) == false)&&(((e.Msg.Flags.QoS:Int) == 0)&&(((e.Msg.Flags.Retain:Bool) == false)&&(((e.Msg.Flags.Will:Bool) == false)&&(((e.Msg.Flags.Clean:Bool) == false)&&(((e.Msg.Flags.Type':Int) == 0)&&(((e.Msg.Gateway:Int) == 0)&&(((e.Msg.Radius:Int) == 0)&&(((e.Msg.Time:Int) == 0)&&(((e.Msg.Timed:Bool) == false)&&(((e.Msg.TopicID:Int) == 0)&&(((e.Msg.MsgID:Int) == 0)&&(((e.Msg.Code:Int) == 0)&&(((e.Msg.Name:List UInt8) == [])&&(((e.Msg.Data:List UInt8) == [])&&true))))))))))))))))
 ((Ga N e.Frame (⟨0,0,[],[]⟩:Zg)).bind fun v5=>
 some v5)
 (some false))
 (some false)
theorem Qcg {N} {e} {r} (h:J0 N e=some r):pU 69 [.agg (Qa.cells e)] (.bool r):=by
 refine Q3 k69 ?_;unfold J0 at h;refine cP h Qe3 (.cons (Ar (Yo (f2_ (f1_ (.cons (.p _) p5))))) (.cons (Ar (Yo (f2_ (f1_ (.cons (.nil _) (f2_ (.cons (.nil _) (.cons (.nil _) (.cons (.nil _) .nil))))))))) .nil)) fun v1 h=>?_;refine iR h fun h=>?_;refine Qlm (ks := [0,2,0,2,2,2,0,0,0,0,2,0,0,0,1,1]) (xs := [iI e.Msg.Type',.p (.bool e.Msg.Flags.Dup),iI e.Msg.Flags.QoS,.p (.bool e.Msg.Flags.Retain),.p (.bool e.Msg.Flags.Will),.p (.bool e.Msg.Flags.Clean),iI e.Msg.Flags.Type',iI e.Msg.Gateway,iI e.Msg.Radius,iI e.Msg.Time,.p (.bool e.Msg.Timed),iI e.Msg.TopicID,iI e.Msg.MsgID,iI e.Msg.Code,iS e.Msg.Name,iS e.Msg.Data]) (ys := [iI 0,.p (.bool false),iI 0,.p (.bool false),.p (.bool false),.p (.bool false),iI 0,iI 0,iI 0,iI 0,.p (.bool false),iI 0,iI 0,iI 0,iS [],iS []]) (b:=(((e.Msg.Type':Int) == 0)&&(((e.Msg.Flags.Dup:Bool) == false)&&(((e.Msg.Flags.QoS:Int) == 0)&&(((e.Msg.Flags.Retain:Bool) == false)&&(((e.Msg.Flags.Will:Bool) == false)&&(((e.Msg.Flags.Clean:Bool) == false)&&(((e.Msg.Flags.Type':Int) == 0)&&(((e.Msg.Gateway:Int) == 0)&&(((e.Msg.Radius:Int) == 0)&&(((e.Msg.Time:Int) == 0)&&(((e.Msg.Timed:Bool) == false)&&(((e.Msg.TopicID:Int) == 0)&&(((e.Msg.MsgID:Int) == 0)&&(((e.Msg.Code:Int) == 0)&&(((e.Msg.Name:List UInt8) == [])&&(((e.Msg.Data:List UInt8) == [])&&true))))))))))))))))) rfl ?_;refine iR h fun h=>?_;refine cP h Q8q (.cons q4 (.cons q4n .nil)) fun v5 h=>?_;cases h;exact (.p _)
def Jn:List (Int×J1) := [(1,(⟨[109,113,116,116,51]⟩:J1)),(2,(⟨[109,113,116,116,53]⟩:J1)),(3,(⟨[115,110]⟩:J1)),(4,(⟨[97,109,113,112]⟩:J1))]
theorem Qac:pU 96 [] (.pmap (Qzf (fun v => .agg (J1.cells v)) Jn)):=Q23 Qfo (N:=2000) (d:=60) (by kernel_rfl)
def Q15 (_N:Nat) (proto:Int):Option Bool:=
 optC (Q6o Jn proto) (fun m1=>
 some true)
 (some false)
theorem Qb9 {N} {proto} {r} (h:Q15 N proto=some r):pU 57 [.int .i64 proto] (.bool r):=by
 refine Q3 k57 ?_;unfold Q15 at h;refine W1 Qac .nil ?_;refine Qug h (fun m1 hm2 h=>?_) (fun hm2 h=>?_)
 ·cases h;exact (.p _)
 cases h;exact (.p _)
def V5 (N:Nat) (e:Qa):Option Int:=
 (J0 N e).bind fun v71=>
 cond (!v71)
 (some 2)
 ((We N 3 e.Props).bind fun v77=>
 cond (Q5 .neq v77 0)
 (some 9)
 (some 0))
def V8 (N:Nat) (e:Qa):Option Int:=
 (Vm N e.Channel 0 65535).bind fun v61=>
 cond (!v61)
 (some 2)
 (cond (Q5 .neq e.Channel 0)
 (cond (Q5 .neq e.Proto 4)
 (some 2)
 (V5 N e))
 (V5 N e))
def V4 (N:Nat) (e:Qa):Option Int:=
 cond (Q5 .eql e.Proto 3)
 ((J5 N e).bind fun v53=>
 cond (!v53)
 (some 2)
 (V8 N e))
 (cond (Q5 .neq e.Type' 0)
 (some 2)
 (cond (Q5 .gtr ((Q8 Wz.cells e.Hops).length:Int) 0)
 (some 2)
 (V8 N e)))
def W2 (N:Nat) (e:Qa):Option Int:=
 cond (Q5 .gtr ((Q8 Z8.cells e.Props).length:Int) 0)
 (cond (Q5 .neq e.Proto 2)
 (some 2)
 (V4 N e))
 (V4 N e)
def V3 (N:Nat) (e:Qa) (c2:Bool):Option Int:=
 (Vm N e.ID 0 65535).bind fun v32=>
 cond (!v32)
 (some 2)
 (cond (!(c2 == (Q5 .neq e.ID 0)))
 (some 2)
 (cond e.Dup
 (cond (!c2)
 (cond (!(Q5 .eql e.Proto 3))
 (some 2)
 (W2 N e))
 (W2 N e))
 (W2 N e)))
def W7 (N:Nat) (e:Qa) (c2:Bool):Option Int:=
 (Q15 N e.Proto).bind fun v8=>
 cond (!v8)
 (some 2)
 (cond (Q5 .neq e.Kind 1)
 (some 2)
 ((Yx N e.Topic).bind fun v15=>
 cond (!v15)
 (some 10)
 ((Vm N e.QoS 0 2).bind fun v23=>
 cond (!v23)
 (cond (Q5 .eql e.Proto 3)
 (cond (!(Q5 .eql e.QoS (-1)))
 (some 2)
 (V3 N e c2))
 (some 2))
 (V3 N e c2))))
def Ye (N:Nat) (e:Qa):Option Int:=
 cond (Q5 .eql e.QoS 1)
 (W7 N e true)
 (W7 N e (Q5 .eql e.QoS 2))
theorem Ud {N} {e} {r} (h:Ye N e=some r):pU 31 [.agg (Qa.cells e)] (.int .i64 r):=by
 refine Q3 k31 ?_;unfold Ye at h;rw [cX] at h;refine jrA (r:=r) (σ:=Bool) (fun _=>(.any :: .ptr 0 0 :: .any :: .ptr 1 0 :: .ptr 2 0::a16 (a16 (a16 (.any :: []))):List AV)) (fun c2=>(.cells (Q18 e ([])) :: .cells (.p (.bool (Qlt .eql e.Proto 3)) :: []) :: .cells (.p (.bool c2) :: []) :: []:List AObj)) (fun c2=>W7 N e c2) ?_ ?_
 ·apply iU h<;>intro h
  ·show Exists _;exact ⟨(true),h,(fun i=>i),Yq⟩
  show Exists _;exact ⟨((Qlt .eql e.QoS 2)),h,(fun i=>i),Yq⟩
 rintro c2 h
 unfold W7 at h;rw [cX] at h;refine rdI 13 ?_;refine rdP ?_;refine dT ?_;refine Qe k56 ?_;refine cP h Qb9 p1 fun v8 h=>?_;refine iL h fun h=>?_;refine iL h fun h=>?_;refine rdP ?_;refine dT ?_;refine Qe k58 ?_;refine cP h Xn p1 fun v15 h=>?_;refine iL h fun h=>?_;refine rdJ (r:=r) (x:=V3 N e c2) (a16 (a16 (a8 (a2 (.slice 2 3 0 11::iI 11::iI 3::a8 (.any :: [])))))) ?_ ?_
 ·refine dT ?_;refine Qe k59 ?_;refine cP h Gh p3 fun v23 h=>?_;apply iU h<;>intro h
  ·refine iR h fun h=>?_;refine iL h fun h=>?_;show Exists _;exact ⟨(),h,(fun i=>i),Yq⟩
  show Exists _;exact ⟨(),h,(fun i=>i),Yq⟩
 intro h;unfold V3 at h;rw [cX] at h;refine rdP ?_;refine dT ?_;refine Qe k61 ?_;refine cP h Gh p3 fun v32 h=>?_;refine iL h fun h=>?_;refine iL h fun h=>?_;refine rdJ (r:=r) (x:=W2 N e) (a16 (a16 (a8 (a2 (.slice 2 3 0 11::iI 11::iI 5::a8 (.any :: [])))))) ?_ ?_
 ·refine dT ?_;refine Qe k62 ?_;apply iU h<;>intro h
  ·apply iU h<;>intro h
   ·refine iL h fun h=>?_;show Exists _;exact ⟨(),h,(fun i=>i),Yq⟩
   show Exists _;exact ⟨(),h,(fun i=>i),Yq⟩
  show Exists _;exact ⟨(),h,(fun i=>i),Yq⟩
 intro h;unfold W2 at h;rw [cX] at h;refine rdJ (r:=r) (x:=V4 N e) (a16 (a16 (a8 (a2 (.slice 2 3 0 11::iI 11::iI 6::a8 (.any :: [])))))) ?_ ?_
 ·refine dT ?_;refine Qe k63 ?_;apply iU h<;>intro h
  ·refine iL h fun h=>?_;show Exists _;exact ⟨(),h,(fun i=>i),Yq⟩
  show Exists _;exact ⟨(),h,(fun i=>i),Yq⟩
 intro h;unfold V4 at h;rw [cX] at h;refine rdJ (r:=r) (x:=V8 N e) (a16 (a16 (a8 (a2 (.slice 2 3 0 11::iI 11::iI 7::a8 (.any :: [])))))) ?_ ?_
 ·refine dT ?_;refine Qe k64 ?_;refine ifO h (fun hc52 h=>?_) (fun hc52 h=>?_)
  ·refine cP h Qbb (.cons (Ar (Yo (Yo (Yo (f2_ (f1_ (.cons (.p _) p5))))))) .nil) fun v53 h=>?_;refine iL h fun h=>?_;refine ifF (Z1r hc52) ?_;show Exists _;exact ⟨(),h,(fun i=>i),Yq⟩
  refine ifT (Z1o hc52) ?_;refine iL h fun h=>?_;refine iL h fun h=>?_;show Exists _;exact ⟨(),h,(fun i=>i),Yq⟩
 intro h;unfold V8 at h;rw [cX] at h;refine rdP ?_;refine dT ?_;refine Qe k66 ?_;refine cP h Gh p3 fun v61 h=>?_;refine iL h fun h=>?_;refine rdJ (r:=r) (x:=V5 N e) (a16 (a16 (a8 (a2 (.slice 2 3 0 11::iI 11::iI 9::a8 (.any :: [])))))) ?_ ?_
 ·refine dT ?_;refine Qe k67 ?_;apply iU h<;>intro h
  ·refine iL h fun h=>?_;show Exists _;exact ⟨(),h,(fun i=>i),Yq⟩
  show Exists _;exact ⟨(),h,(fun i=>i),Yq⟩
 intro h;unfold V5 at h;rw [cX] at h;refine rdP ?_;refine dT ?_;refine Qe k68 ?_;refine cP h Qcg (.cons (Ar (Yo (Yo (Yo (f2_ (f1_ (.cons (.p _) p5))))))) .nil) fun v71 h=>?_;refine iL h fun h=>?_;refine rdP ?_;refine dT ?_;refine Qe k70 ?_;refine cP h Qdq p2 fun v77 h=>?_;refine iL h fun h=>?_;refine rdP ?_;refine dF ?_;cases h;exact (.p _)
def Q0p (N:Nat) (e:Qa) (l:Xd):Option Int:=
 (Q2t N l).bind fun v1=>
 cond (!v1)
 (some 2)
 (cond (Q5 .eql e.Kind 1)
 ((Ye N e).bind fun v5=>
 cond (Q5 .neq v5 0)
 (some v5)
 (cond (Q5 .gtr (e.Payload.length:Int) l.MaxPacket)
 (some 4)
 (some 0)))
 (cond (Q5 .eql e.Kind 2)
 (none)
 (some 2)))
theorem Qb4 {N} {e} {l} {r} (h:Q0p N e l=some r):pU 92 [.agg (Qa.cells e),.agg (Xd.cells l)] (.int .i64 r):=by
 refine Q3 k92 ?_;unfold Q0p at h;rw [cX] at h;refine cP h Qb7 (.cons q2 .nil) fun v1 h=>?_;refine iL h fun h=>?_;apply iU h<;>intro h
 ·refine cP h Ud (.cons (Ar (Yo (Yo (Yo (f2_ (f1_ (.cons (.p _) p5))))))) .nil) fun v5 h=>?_;refine iL h fun h=>?_;exact iB h
 refine iR h fun h=>?_
 first | (cases h;done) | (simp [U6] at h;done)
def Xq (_N:Nat):Option (Xd):=
 some (⟨1048576,32⟩:Xd)
theorem Ve {N} {r} (h:Xq N=some r):pU 93 [] (.agg (Xd.cells r)):=by
 refine Q3 k93 ?_;unfold Xq at h;obtain rfl:=Qt h;exact q2
def W8 (N:Nat) (R0:Reg) (client:List UInt8) (e:Qa):Option ((Qm×Int)×Reg):=
 cond (Q5 .neq e.Proto 3)
 (some (((⟨[],(⟨0,(⟨false,0,false,false,false,0⟩:Qv),0,0,0,false,0,0,0,[],[]⟩:Vi)⟩:Qm),2),R0))
 ((Xq N).bind fun v2=>
 (Q0p N e v2).bind fun v4=>
 cond (Q5 .neq v4 0)
 (some (((⟨[],(⟨0,(⟨false,0,false,false,false,0⟩:Qv),0,0,0,false,0,0,0,[],[]⟩:Vi)⟩:Qm),v4),R0))
 ((Q06 N e.Hops).bind fun v7=>
 cond (Q5 .eql e.Kind 1)
 (cond (Q5 .eql e.Type' 2)
 ((Gi N (⟨⟩:Q14) e.Topic).bind fun v30=>
 cond (!v30.2)
 (some (((⟨[],(⟨0,(⟨false,0,false,false,false,0⟩:Qv),0,0,0,false,0,0,0,[],[]⟩:Vi)⟩:Qm),11),R0))
 ((Xq N).bind fun v33=>
 (Yg N (⟨v7,(⟨12,(⟨e.Dup,e.QoS,e.Retain,false,false,e.Type'⟩:Qv),0,0,0,false,v30.1,e.ID,0,[],e.Payload⟩:Vi)⟩:Qm) v33).bind fun v35=>
 cond (Q5 .neq v35 0)
 (some (((⟨[],(⟨0,(⟨false,0,false,false,false,0⟩:Qv),0,0,0,false,0,0,0,[],[]⟩:Vi)⟩:Qm),v35),R0))
 (some (((⟨v7,(⟨12,(⟨e.Dup,e.QoS,e.Retain,false,false,e.Type'⟩:Qv),0,0,0,false,v30.1,e.ID,0,[],e.Payload⟩:Vi)⟩:Qm),0),R0))))
 (cond (Q5 .eql e.Type' 1)
 ((Qbq N R0 client e.Topic).bind fun v38=>
 cond (Q5 .neq v38.1.2 0)
 (some (((⟨[],(⟨0,(⟨false,0,false,false,false,0⟩:Qv),0,0,0,false,0,0,0,[],[]⟩:Vi)⟩:Qm),11),v38.2))
 ((Q5m N v38.2 client v38.1.1).bind fun v41=>
 cond (!(v41.1 == true))
 (some (((⟨[],(⟨0,(⟨false,0,false,false,false,0⟩:Qv),0,0,0,false,0,0,0,[],[]⟩:Vi)⟩:Qm),11),v41.2))
 ((Xq N).bind fun v44=>
 (Yg N (⟨v7,(⟨12,(⟨e.Dup,e.QoS,e.Retain,false,false,e.Type'⟩:Qv),0,0,0,false,v38.1.1,e.ID,0,[],e.Payload⟩:Vi)⟩:Qm) v44).bind fun v46=>
 cond (Q5 .neq v46 0)
 (some (((⟨[],(⟨0,(⟨false,0,false,false,false,0⟩:Qv),0,0,0,false,0,0,0,[],[]⟩:Vi)⟩:Qm),v46),v41.2))
 (some (((⟨v7,(⟨12,(⟨e.Dup,e.QoS,e.Retain,false,false,e.Type'⟩:Qv),0,0,0,false,v38.1.1,e.ID,0,[],e.Payload⟩:Vi)⟩:Qm),0),v41.2)))))
 ((Qbq N R0 client e.Topic).bind fun v49=>
 cond (Q5 .neq v49.1.2 0)
 (some (((⟨[],(⟨0,(⟨false,0,false,false,false,0⟩:Qv),0,0,0,false,0,0,0,[],[]⟩:Vi)⟩:Qm),11),v49.2))
 ((Q5m N v49.2 client v49.1.1).bind fun v52=>
 cond (!(v52.1 == false))
 (some (((⟨[],(⟨0,(⟨false,0,false,false,false,0⟩:Qv),0,0,0,false,0,0,0,[],[]⟩:Vi)⟩:Qm),11),v52.2))
 ((Xq N).bind fun v55=>
 (Yg N (⟨v7,(⟨12,(⟨e.Dup,e.QoS,e.Retain,false,false,e.Type'⟩:Qv),0,0,0,false,v49.1.1,e.ID,0,[],e.Payload⟩:Vi)⟩:Qm) v55).bind fun v57=>
 cond (Q5 .neq v57 0)
 (some (((⟨[],(⟨0,(⟨false,0,false,false,false,0⟩:Qv),0,0,0,false,0,0,0,[],[]⟩:Vi)⟩:Qm),v57),v52.2))
 (some (((⟨v7,(⟨12,(⟨e.Dup,e.QoS,e.Retain,false,false,e.Type'⟩:Qv),0,0,0,false,v49.1.1,e.ID,0,[],e.Payload⟩:Vi)⟩:Qm),0),v52.2)))))))
 ((Xq N).bind fun v60=>
 (Yg N (⟨v7,e.Msg⟩:Qm) v60).bind fun v62=>
 cond (Q5 .neq v62 0)
 (some (((⟨[],(⟨0,(⟨false,0,false,false,false,0⟩:Qv),0,0,0,false,0,0,0,[],[]⟩:Vi)⟩:Qm),v62),R0))
 (some (((⟨v7,e.Msg⟩:Qm),0),R0)))))
theorem Q2k {N} {R0} {client} {e} {r} (h:W8 N R0 client e=some r):Q3x Tryz.prog G1 55 R0 [.str client,.agg (Qa.cells e)] (.tuple [.agg (Qm.cells r.1.1),.int .i64 r.1.2]) r.2:=by
 refine Qa3 k55 ?_;unfold W8 at h;rw [cX] at h;apply iU h<;>intro h
 ·obtain rfl:=Qt h;exact ⟨1,rfl,(Au (.cons (Ar (.cons (.nil _) (f8_ (f2_ (.cons (.p _) p5))))) p1))⟩
 refine Qi ?_;refine cD h Ve p0 fun v2 h=>?_;refine cD h Qb4 (.cons (Ar (Yo (Yo (Yo (f2_ (f1_ (.cons (.p _) p5))))))) p1) fun v4 h=>?_;apply iU h<;>intro h
 ·obtain rfl:=Qt h;exact ⟨1,rfl,(Au (.cons (Ar (.cons (.nil _) (f8_ (f2_ (.cons (.p _) p5))))) p1))⟩
 refine Qi ?_;refine dcO h Q6m [4] (fun v7 => .slice 2 4 0 v7.length) (rE rfl <| rN) fun v7 h=>?_;apply iU h<;>intro h
 ·refine Qlo 7 0 rfl rfl rfl rfl rfl ?_;refine Qyg h (fun hc28 h=>?_) (fun hc28 h=>?_)
  ·refine Q8a (r := .iface 190 (.agg [])) rfl rfl (Qe k94 (ifT hc28 rfl)) ?_;refine cP h Q7l (.cons (Ar .nil) p1) fun v30 h=>?_;apply iU h<;>intro h
   ·obtain rfl:=Qt h;exact ⟨1,rfl,(Au (.cons (Ar (.cons (.nil _) (f8_ (f2_ (.cons (.p _) p5))))) p1))⟩
   refine Qi ?_;refine cD h Ve p0 fun v33 h=>?_;refine dL h Vp [4] (.cons (Ar (.cons (frz_own (c:=Wz.cells) (l:=(v7:List Wz)) (fun _=>rfl) rfl (by simp) sd) (f8_ (f2_ (.cons (.p _) p5))))) p1) fun v35 h=>?_;apply iU h<;>intro h
   ·obtain rfl:=Qt h;exact ⟨1,rfl,(Au (.cons (Ar (.cons (.nil _) (f8_ (f2_ (.cons (.p _) p5))))) p1))⟩
   obtain rfl:=Qt h;exact ⟨1,rfl,(Au (.cons (Ar (.cons (frz_own (c:=Wz.cells) (l:=(v7:List Wz)) (fun _=>rfl) rfl (by decide) sd) (f8_ (f2_ (.cons (.p _) p5))))) p1))⟩
  refine Qyg h (fun hc29 h=>?_) (fun hc29 h=>?_)
  ·refine Q8a (r := .iface 192 (.agg [.ptr 0 0,iS client])) rfl rfl (Qe k94 (ifF hc28 (ifT hc29 rfl))) ?_;refine Qe Z68 ?_;refine Qe Z0s ?_;refine cRg h Q8g (b:=1) rfl p2 fun v38 h=>?_;apply iU h<;>intro h
   ·obtain rfl:=Qt h;exact ⟨8,rfl,(Au (.cons (Ar (.cons (.nil _) (f8_ (f2_ (.cons (.p _) p5))))) p1))⟩
   refine cRg h Q48 (b:=8) rfl p2 fun v41 h=>?_;apply iU h<;>intro h
   ·obtain rfl:=Qt h;exact ⟨9,rfl,(Au (.cons (Ar (.cons (.nil _) (f8_ (f2_ (.cons (.p _) p5))))) p1))⟩
   refine Qi ?_;refine cD h Ve p0 fun v44 h=>?_;refine dL h Vp [4] (.cons (Ar (.cons (frz_own (c:=Wz.cells) (l:=(v7:List Wz)) (fun _=>rfl) rfl (by simp) sd) (f8_ (f2_ (.cons (.p _) p5))))) p1) fun v46 h=>?_;apply iU h<;>intro h
   ·obtain rfl:=Qt h;exact ⟨9,rfl,(Au (.cons (Ar (.cons (.nil _) (f8_ (f2_ (.cons (.p _) p5))))) p1))⟩
   obtain rfl:=Qt h;exact ⟨9,rfl,(Au (.cons (Ar (.cons (frz_own (c:=Wz.cells) (l:=(v7:List Wz)) (fun _=>rfl) rfl (by decide) sd) (f8_ (f2_ (.cons (.p _) p5))))) p1))⟩
  refine Q8a (r := .iface 193 (.agg [.ptr 0 0,iS client])) rfl rfl (Qe k94 (ifF hc28 (ifF hc29 rfl))) ?_;refine Qe Z55 ?_;refine Qe Z0s ?_;refine cRg h Q8g (b:=1) rfl p2 fun v49 h=>?_;apply iU h<;>intro h
  ·obtain rfl:=Qt h;exact ⟨8,rfl,(Au (.cons (Ar (.cons (.nil _) (f8_ (f2_ (.cons (.p _) p5))))) p1))⟩
  refine cRg h Q48 (b:=8) rfl p2 fun v52 h=>?_;apply iU h<;>intro h
  ·obtain rfl:=Qt h;exact ⟨9,rfl,(Au (.cons (Ar (.cons (.nil _) (f8_ (f2_ (.cons (.p _) p5))))) p1))⟩
  refine Qi ?_;refine cD h Ve p0 fun v55 h=>?_;refine dL h Vp [4] (.cons (Ar (.cons (frz_own (c:=Wz.cells) (l:=(v7:List Wz)) (fun _=>rfl) rfl (by simp) sd) (f8_ (f2_ (.cons (.p _) p5))))) p1) fun v57 h=>?_;apply iU h<;>intro h
  ·obtain rfl:=Qt h;exact ⟨9,rfl,(Au (.cons (Ar (.cons (.nil _) (f8_ (f2_ (.cons (.p _) p5))))) p1))⟩
  obtain rfl:=Qt h;exact ⟨9,rfl,(Au (.cons (Ar (.cons (frz_own (c:=Wz.cells) (l:=(v7:List Wz)) (fun _=>rfl) rfl (by decide) sd) (f8_ (f2_ (.cons (.p _) p5))))) p1))⟩
 refine Qi ?_;refine cD h Ve p0 fun v60 h=>?_;refine dL h Vp [4] (.cons (Ar (.cons (frz_own (c:=Wz.cells) (l:=(v7:List Wz)) (fun _=>rfl) rfl (by simp) sd) (f8_ (f2_ (.cons (.p _) p5))))) p1) fun v62 h=>?_;apply iU h<;>intro h
 ·obtain rfl:=Qt h;exact ⟨1,rfl,(Au (.cons (Ar (.cons (.nil _) (f8_ (f2_ (.cons (.p _) p5))))) p1))⟩
 obtain rfl:=Qt h;exact ⟨1,rfl,(Au (.cons (Ar (.cons (frz_own (c:=Wz.cells) (l:=(v7:List Wz)) (fun _=>rfl) rfl (by decide) sd) (f8_ (f2_ (.cons (.p _) p5))))) p1))⟩
def Q0f (N:Nat) (R0:Reg) (client:List UInt8) (e:Qa) (proto:Int):Option ((Qa×Int)×Reg):=
 cond ((proto:Int) == 1)
 ((Ye N e).bind fun v2=>
 cond (Q5 .neq v2 0)
 (some (((⟨0,0,[],[],0,false,false,0,[],0,[],0,(⟨0,false,false,0,0,[],[],false,0,[],false,[],false,[],false,(⟨[],[],0,false,[]⟩:U5),false,0,[],[],[]⟩:Qp),(⟨0,(⟨false,0,false,false,false,0⟩:Qv),0,0,0,false,0,0,0,[],[]⟩:Vi),(⟨0,0,[],[]⟩:Zg)⟩:Qa),v2),R0))
 (cond (Q5 .eql proto e.Proto)
 ((Wu N e).bind fun v6=>
 some ((v6,0),R0))
 (cond (Q5 .gtr ((Q8 Z8.cells e.Props).length:Int) 0)
 (some (((⟨0,0,[],[],0,false,false,0,[],0,[],0,(⟨0,false,false,0,0,[],[],false,0,[],false,[],false,[],false,(⟨[],[],0,false,[]⟩:U5),false,0,[],[],[]⟩:Qp),(⟨0,(⟨false,0,false,false,false,0⟩:Qv),0,0,0,false,0,0,0,[],[]⟩:Vi),(⟨0,0,[],[]⟩:Zg)⟩:Qa),15),R0))
 (cond (Q5 .lss e.QoS 0)
 (some (((⟨0,0,[],[],0,false,false,0,[],0,[],0,(⟨0,false,false,0,0,[],[],false,0,[],false,[],false,[],false,(⟨[],[],0,false,[]⟩:U5),false,0,[],[],[]⟩:Qp),(⟨0,(⟨false,0,false,false,false,0⟩:Qv),0,0,0,false,0,0,0,[],[]⟩:Vi),(⟨0,0,[],[]⟩:Zg)⟩:Qa),15),R0))
 (cond e.Dup
 (some (((⟨proto,1,e.Topic,e.Payload,e.QoS,e.Retain,(Q5 .gtr e.QoS 0),e.ID,[],0,[],0,(⟨0,false,false,0,0,[],[],false,0,[],false,[],false,[],false,(⟨[],[],0,false,[]⟩:U5),false,0,[],[],[]⟩:Qp),(⟨0,(⟨false,0,false,false,false,0⟩:Qv),0,0,0,false,0,0,0,[],[]⟩:Vi),(⟨0,0,[],[]⟩:Zg)⟩:Qa),0),R0))
 (some (((⟨proto,1,e.Topic,e.Payload,e.QoS,e.Retain,false,e.ID,[],0,[],0,(⟨0,false,false,0,0,[],[],false,0,[],false,[],false,[],false,(⟨[],[],0,false,[]⟩:U5),false,0,[],[],[]⟩:Qp),(⟨0,(⟨false,0,false,false,false,0⟩:Qv),0,0,0,false,0,0,0,[],[]⟩:Vi),(⟨0,0,[],[]⟩:Zg)⟩:Qa),0),R0)))))))
 (cond ((proto:Int) == 2)
 ((Ye N e).bind fun v12=>
 cond (Q5 .neq v12 0)
 (some (((⟨0,0,[],[],0,false,false,0,[],0,[],0,(⟨0,false,false,0,0,[],[],false,0,[],false,[],false,[],false,(⟨[],[],0,false,[]⟩:U5),false,0,[],[],[]⟩:Qp),(⟨0,(⟨false,0,false,false,false,0⟩:Qv),0,0,0,false,0,0,0,[],[]⟩:Vi),(⟨0,0,[],[]⟩:Zg)⟩:Qa),v12),R0))
 (cond (Q5 .eql proto e.Proto)
 ((Wu N e).bind fun v16=>
 some ((v16,0),R0))
 (cond (Q5 .gtr ((Q8 Z8.cells e.Props).length:Int) 0)
 (some (((⟨0,0,[],[],0,false,false,0,[],0,[],0,(⟨0,false,false,0,0,[],[],false,0,[],false,[],false,[],false,(⟨[],[],0,false,[]⟩:U5),false,0,[],[],[]⟩:Qp),(⟨0,(⟨false,0,false,false,false,0⟩:Qv),0,0,0,false,0,0,0,[],[]⟩:Vi),(⟨0,0,[],[]⟩:Zg)⟩:Qa),15),R0))
 (cond (Q5 .lss e.QoS 0)
 (some (((⟨0,0,[],[],0,false,false,0,[],0,[],0,(⟨0,false,false,0,0,[],[],false,0,[],false,[],false,[],false,(⟨[],[],0,false,[]⟩:U5),false,0,[],[],[]⟩:Qp),(⟨0,(⟨false,0,false,false,false,0⟩:Qv),0,0,0,false,0,0,0,[],[]⟩:Vi),(⟨0,0,[],[]⟩:Zg)⟩:Qa),15),R0))
 (cond e.Dup
 (some (((⟨proto,1,e.Topic,e.Payload,e.QoS,e.Retain,(Q5 .gtr e.QoS 0),e.ID,[],0,[],0,(⟨0,false,false,0,0,[],[],false,0,[],false,[],false,[],false,(⟨[],[],0,false,[]⟩:U5),false,0,[],[],[]⟩:Qp),(⟨0,(⟨false,0,false,false,false,0⟩:Qv),0,0,0,false,0,0,0,[],[]⟩:Vi),(⟨0,0,[],[]⟩:Zg)⟩:Qa),0),R0))
 (some (((⟨proto,1,e.Topic,e.Payload,e.QoS,e.Retain,false,e.ID,[],0,[],0,(⟨0,false,false,0,0,[],[],false,0,[],false,[],false,[],false,(⟨[],[],0,false,[]⟩:U5),false,0,[],[],[]⟩:Qp),(⟨0,(⟨false,0,false,false,false,0⟩:Qv),0,0,0,false,0,0,0,[],[]⟩:Vi),(⟨0,0,[],[]⟩:Zg)⟩:Qa),0),R0)))))))
 (cond ((proto:Int) == 3)
 ((Ye N e).bind fun v22=>
 cond (Q5 .neq v22 0)
 (some (((⟨0,0,[],[],0,false,false,0,[],0,[],0,(⟨0,false,false,0,0,[],[],false,0,[],false,[],false,[],false,(⟨[],[],0,false,[]⟩:U5),false,0,[],[],[]⟩:Qp),(⟨0,(⟨false,0,false,false,false,0⟩:Qv),0,0,0,false,0,0,0,[],[]⟩:Vi),(⟨0,0,[],[]⟩:Zg)⟩:Qa),v22),R0))
 (cond (Q5 .eql proto e.Proto)
 ((Wu N e).bind fun v26=>
 some ((v26,0),R0))
 (cond (Q5 .gtr ((Q8 Z8.cells e.Props).length:Int) 0)
 (some (((⟨0,0,[],[],0,false,false,0,[],0,[],0,(⟨0,false,false,0,0,[],[],false,0,[],false,[],false,[],false,(⟨[],[],0,false,[]⟩:U5),false,0,[],[],[]⟩:Qp),(⟨0,(⟨false,0,false,false,false,0⟩:Qv),0,0,0,false,0,0,0,[],[]⟩:Vi),(⟨0,0,[],[]⟩:Zg)⟩:Qa),15),R0))
 (cond (Q5 .eql (e.Topic.length:Int) 2)
 ((W8 N R0 client (⟨proto,1,e.Topic,e.Payload,e.QoS,e.Retain,e.Dup,e.ID,[],2,[],0,(⟨0,false,false,0,0,[],[],false,0,[],false,[],false,[],false,(⟨[],[],0,false,[]⟩:U5),false,0,[],[],[]⟩:Qp),(⟨0,(⟨false,0,false,false,false,0⟩:Qv),0,0,0,false,0,0,0,[],[]⟩:Vi),(⟨0,0,[],[]⟩:Zg)⟩:Qa)).bind fun v30=>
 cond (Q5 .neq v30.1.2 0)
 (some (((⟨0,0,[],[],0,false,false,0,[],0,[],0,(⟨0,false,false,0,0,[],[],false,0,[],false,[],false,[],false,(⟨[],[],0,false,[]⟩:U5),false,0,[],[],[]⟩:Qp),(⟨0,(⟨false,0,false,false,false,0⟩:Qv),0,0,0,false,0,0,0,[],[]⟩:Vi),(⟨0,0,[],[]⟩:Zg)⟩:Qa),15),v30.2))
 (some (((⟨proto,1,e.Topic,e.Payload,e.QoS,e.Retain,e.Dup,e.ID,[],2,[],0,(⟨0,false,false,0,0,[],[],false,0,[],false,[],false,[],false,(⟨[],[],0,false,[]⟩:U5),false,0,[],[],[]⟩:Qp),(⟨0,(⟨false,0,false,false,false,0⟩:Qv),0,0,0,false,0,0,0,[],[]⟩:Vi),(⟨0,0,[],[]⟩:Zg)⟩:Qa),0),v30.2)))
 ((Qbq N R0 client e.Topic).bind fun v33=>
 cond (Q5 .neq v33.1.2 0)
 (some (((⟨0,0,[],[],0,false,false,0,[],0,[],0,(⟨0,false,false,0,0,[],[],false,0,[],false,[],false,[],false,(⟨[],[],0,false,[]⟩:U5),false,0,[],[],[]⟩:Qp),(⟨0,(⟨false,0,false,false,false,0⟩:Qv),0,0,0,false,0,0,0,[],[]⟩:Vi),(⟨0,0,[],[]⟩:Zg)⟩:Qa),15),v33.2))
 ((Q5m N v33.2 client v33.1.1).bind fun v36=>
 cond v36.1
 ((W8 N v36.2 client (⟨proto,1,e.Topic,e.Payload,e.QoS,e.Retain,e.Dup,e.ID,[],1,[],0,(⟨0,false,false,0,0,[],[],false,0,[],false,[],false,[],false,(⟨[],[],0,false,[]⟩:U5),false,0,[],[],[]⟩:Qp),(⟨0,(⟨false,0,false,false,false,0⟩:Qv),0,0,0,false,0,0,0,[],[]⟩:Vi),(⟨0,0,[],[]⟩:Zg)⟩:Qa)).bind fun v39=>
 cond (Q5 .neq v39.1.2 0)
 (some (((⟨0,0,[],[],0,false,false,0,[],0,[],0,(⟨0,false,false,0,0,[],[],false,0,[],false,[],false,[],false,(⟨[],[],0,false,[]⟩:U5),false,0,[],[],[]⟩:Qp),(⟨0,(⟨false,0,false,false,false,0⟩:Qv),0,0,0,false,0,0,0,[],[]⟩:Vi),(⟨0,0,[],[]⟩:Zg)⟩:Qa),15),v39.2))
 (some (((⟨proto,1,e.Topic,e.Payload,e.QoS,e.Retain,e.Dup,e.ID,[],1,[],0,(⟨0,false,false,0,0,[],[],false,0,[],false,[],false,[],false,(⟨[],[],0,false,[]⟩:U5),false,0,[],[],[]⟩:Qp),(⟨0,(⟨false,0,false,false,false,0⟩:Qv),0,0,0,false,0,0,0,[],[]⟩:Vi),(⟨0,0,[],[]⟩:Zg)⟩:Qa),0),v39.2)))
 ((W8 N v36.2 client (⟨proto,1,e.Topic,e.Payload,e.QoS,e.Retain,e.Dup,e.ID,[],0,[],0,(⟨0,false,false,0,0,[],[],false,0,[],false,[],false,[],false,(⟨[],[],0,false,[]⟩:U5),false,0,[],[],[]⟩:Qp),(⟨0,(⟨false,0,false,false,false,0⟩:Qv),0,0,0,false,0,0,0,[],[]⟩:Vi),(⟨0,0,[],[]⟩:Zg)⟩:Qa)).bind fun v42=>
 cond (Q5 .neq v42.1.2 0)
 (some (((⟨0,0,[],[],0,false,false,0,[],0,[],0,(⟨0,false,false,0,0,[],[],false,0,[],false,[],false,[],false,(⟨[],[],0,false,[]⟩:U5),false,0,[],[],[]⟩:Qp),(⟨0,(⟨false,0,false,false,false,0⟩:Qv),0,0,0,false,0,0,0,[],[]⟩:Vi),(⟨0,0,[],[]⟩:Zg)⟩:Qa),15),v42.2))
 (some (((⟨proto,1,e.Topic,e.Payload,e.QoS,e.Retain,e.Dup,e.ID,[],0,[],0,(⟨0,false,false,0,0,[],[],false,0,[],false,[],false,[],false,(⟨[],[],0,false,[]⟩:U5),false,0,[],[],[]⟩:Qp),(⟨0,(⟨false,0,false,false,false,0⟩:Qv),0,0,0,false,0,0,0,[],[]⟩:Vi),(⟨0,0,[],[]⟩:Zg)⟩:Qa),0),v42.2)))))))))
 (cond ((proto:Int) == 4)
 ((Ye N e).bind fun v46=>
 cond (Q5 .neq v46 0)
 (some (((⟨0,0,[],[],0,false,false,0,[],0,[],0,(⟨0,false,false,0,0,[],[],false,0,[],false,[],false,[],false,(⟨[],[],0,false,[]⟩:U5),false,0,[],[],[]⟩:Qp),(⟨0,(⟨false,0,false,false,false,0⟩:Qv),0,0,0,false,0,0,0,[],[]⟩:Vi),(⟨0,0,[],[]⟩:Zg)⟩:Qa),v46),R0))
 (cond (Q5 .eql proto e.Proto)
 ((Wu N e).bind fun v50=>
 some ((v50,0),R0))
 (cond (Q5 .gtr ((Q8 Z8.cells e.Props).length:Int) 0)
 (some (((⟨0,0,[],[],0,false,false,0,[],0,[],0,(⟨0,false,false,0,0,[],[],false,0,[],false,[],false,[],false,(⟨[],[],0,false,[]⟩:U5),false,0,[],[],[]⟩:Qp),(⟨0,(⟨false,0,false,false,false,0⟩:Qv),0,0,0,false,0,0,0,[],[]⟩:Vi),(⟨0,0,[],[]⟩:Zg)⟩:Qa),15),R0))
 (cond (Q5 .lss e.QoS 0)
 (some (((⟨0,0,[],[],0,false,false,0,[],0,[],0,(⟨0,false,false,0,0,[],[],false,0,[],false,[],false,[],false,(⟨[],[],0,false,[]⟩:U5),false,0,[],[],[]⟩:Qp),(⟨0,(⟨false,0,false,false,false,0⟩:Qv),0,0,0,false,0,0,0,[],[]⟩:Vi),(⟨0,0,[],[]⟩:Zg)⟩:Qa),15),R0))
 (cond e.Dup
 (some (((⟨proto,1,e.Topic,e.Payload,e.QoS,e.Retain,(Q5 .gtr e.QoS 0),e.ID,[],0,[],0,(⟨0,false,false,0,0,[],[],false,0,[],false,[],false,[],false,(⟨[],[],0,false,[]⟩:U5),false,0,[],[],[]⟩:Qp),(⟨0,(⟨false,0,false,false,false,0⟩:Qv),0,0,0,false,0,0,0,[],[]⟩:Vi),(⟨0,0,[],[]⟩:Zg)⟩:Qa),0),R0))
 (some (((⟨proto,1,e.Topic,e.Payload,e.QoS,e.Retain,false,e.ID,[],0,[],0,(⟨0,false,false,0,0,[],[],false,0,[],false,[],false,[],false,(⟨[],[],0,false,[]⟩:U5),false,0,[],[],[]⟩:Qp),(⟨0,(⟨false,0,false,false,false,0⟩:Qv),0,0,0,false,0,0,0,[],[]⟩:Vi),(⟨0,0,[],[]⟩:Zg)⟩:Qa),0),R0)))))))
 (some (((⟨0,0,[],[],0,false,false,0,[],0,[],0,(⟨0,false,false,0,0,[],[],false,0,[],false,[],false,[],false,(⟨[],[],0,false,[]⟩:U5),false,0,[],[],[]⟩:Qp),(⟨0,(⟨false,0,false,false,false,0⟩:Qv),0,0,0,false,0,0,0,[],[]⟩:Vi),(⟨0,0,[],[]⟩:Zg)⟩:Qa),2),R0)))))
theorem Q9i {N} {R0} {client} {e} {proto} {r} (h:Q0f N R0 client e proto=some r):Q3x Tryz.prog G1 10 R0 [.str client,.agg (Qa.cells e),.int .i64 proto] (.tuple [.agg (Qa.cells r.1.1),.int .i64 r.1.2]) r.2:=by
 refine Qa3 k10 ?_;unfold Q0f at h;rw [cX] at h;refine ifO h (fun hc1 h=>?_) (fun hc1 h=>?_)
 ·refine cP h Ud (.cons (Ar (Yo (Yo (Yo (f2_ (f1_ (.cons (.p _) p5))))))) .nil) fun v2 h=>?_;apply iU h<;>intro h
  ·obtain rfl:=Qt h;exact ⟨1,rfl,(Au (.cons (Ar (f8_ (.cons (.nil _) (.cons (.p _) (.cons (.nil _) (Yo (f4_ (.cons (.nil _) (f2_ (.cons (.nil _) (.cons (.nil _) (.cons (.nil _) (Yo (f2_ (f1_ (.cons (.nil _) .nil)))))))))))))))) p1))⟩
  refine ifF (Z04 hc1 (by decide)) ?_;apply iU h<;>intro h
  ·refine cP h Q12 (.cons (Ar (Yo (Yo (Yo (f2_ (f1_ (.cons (.p _) p5))))))) .nil) fun v6 h=>?_;obtain rfl:=Qt h;exact ⟨1,rfl,(Au (.cons (Ar (Yo (Yo (Yo (f2_ (f1_ (.cons (.p _) p5))))))) p1))⟩
  apply iU h<;>intro h
  ·obtain rfl:=Qt h;exact ⟨1,rfl,(Au (.cons (Ar (f8_ (.cons (.nil _) (.cons (.p _) (.cons (.nil _) (Yo (f4_ (.cons (.nil _) (f2_ (.cons (.nil _) (.cons (.nil _) (.cons (.nil _) (Yo (f2_ (f1_ (.cons (.nil _) .nil)))))))))))))))) p1))⟩
  refine Qe k29 ?_;apply iU h<;>intro h
  ·obtain rfl:=Qt h;exact ⟨1,rfl,(Au (.cons (Ar (f8_ (.cons (.nil _) (.cons (.p _) (.cons (.nil _) (Yo (f4_ (.cons (.nil _) (f2_ (.cons (.nil _) (.cons (.nil _) (.cons (.nil _) (Yo (f2_ (f1_ (.cons (.nil _) .nil)))))))))))))))) p1))⟩
  apply iU h<;>intro h
  ·refine Qe k53 ?_;obtain rfl:=Qt h;exact ⟨1,rfl,(Au (.cons (Ar (f8_ (.cons (.nil _) (.cons (.p _) (.cons (.nil _) (Yo (f4_ (.cons (.nil _) (f2_ (.cons (.nil _) (.cons (.nil _) (.cons (.nil _) (Yo (f2_ (f1_ (.cons (.nil _) .nil)))))))))))))))) p1))⟩
  refine Qe k53 ?_;obtain rfl:=Qt h;exact ⟨1,rfl,(Au (.cons (Ar (f8_ (.cons (.nil _) (.cons (.p _) (.cons (.nil _) (Yo (f4_ (.cons (.nil _) (f2_ (.cons (.nil _) (.cons (.nil _) (.cons (.nil _) (Yo (f2_ (f1_ (.cons (.nil _) .nil)))))))))))))))) p1))⟩
 refine ifO h (fun hc11 h=>?_) (fun hc11 h=>?_)
 ·refine cP h Ud (.cons (Ar (Yo (Yo (Yo (f2_ (f1_ (.cons (.p _) p5))))))) .nil) fun v12 h=>?_;apply iU h<;>intro h
  ·obtain rfl:=Qt h;exact ⟨1,rfl,(Au (.cons (Ar (f8_ (.cons (.nil _) (.cons (.p _) (.cons (.nil _) (Yo (f4_ (.cons (.nil _) (f2_ (.cons (.nil _) (.cons (.nil _) (.cons (.nil _) (Yo (f2_ (f1_ (.cons (.nil _) .nil)))))))))))))))) p1))⟩
  refine ifF (Z04 hc11 (by decide)) ?_;apply iU h<;>intro h
  ·refine cP h Q12 (.cons (Ar (Yo (Yo (Yo (f2_ (f1_ (.cons (.p _) p5))))))) .nil) fun v16 h=>?_;obtain rfl:=Qt h;exact ⟨1,rfl,(Au (.cons (Ar (Yo (Yo (Yo (f2_ (f1_ (.cons (.p _) p5))))))) p1))⟩
  apply iU h<;>intro h
  ·obtain rfl:=Qt h;exact ⟨1,rfl,(Au (.cons (Ar (f8_ (.cons (.nil _) (.cons (.p _) (.cons (.nil _) (Yo (f4_ (.cons (.nil _) (f2_ (.cons (.nil _) (.cons (.nil _) (.cons (.nil _) (Yo (f2_ (f1_ (.cons (.nil _) .nil)))))))))))))))) p1))⟩
  refine Qe k29 ?_;apply iU h<;>intro h
  ·obtain rfl:=Qt h;exact ⟨1,rfl,(Au (.cons (Ar (f8_ (.cons (.nil _) (.cons (.p _) (.cons (.nil _) (Yo (f4_ (.cons (.nil _) (f2_ (.cons (.nil _) (.cons (.nil _) (.cons (.nil _) (Yo (f2_ (f1_ (.cons (.nil _) .nil)))))))))))))))) p1))⟩
  apply iU h<;>intro h
  ·refine Qe k53 ?_;obtain rfl:=Qt h;exact ⟨1,rfl,(Au (.cons (Ar (f8_ (.cons (.nil _) (.cons (.p _) (.cons (.nil _) (Yo (f4_ (.cons (.nil _) (f2_ (.cons (.nil _) (.cons (.nil _) (.cons (.nil _) (Yo (f2_ (f1_ (.cons (.nil _) .nil)))))))))))))))) p1))⟩
  refine Qe k53 ?_;obtain rfl:=Qt h;exact ⟨1,rfl,(Au (.cons (Ar (f8_ (.cons (.nil _) (.cons (.p _) (.cons (.nil _) (Yo (f4_ (.cons (.nil _) (f2_ (.cons (.nil _) (.cons (.nil _) (.cons (.nil _) (Yo (f2_ (f1_ (.cons (.nil _) .nil)))))))))))))))) p1))⟩
 refine ifO h (fun hc21 h=>?_) (fun hc21 h=>?_)
 ·refine cP h Ud (.cons (Ar (Yo (Yo (Yo (f2_ (f1_ (.cons (.p _) p5))))))) .nil) fun v22 h=>?_;apply iU h<;>intro h
  ·obtain rfl:=Qt h;exact ⟨1,rfl,(Au (.cons (Ar (f8_ (.cons (.nil _) (.cons (.p _) (.cons (.nil _) (Yo (f4_ (.cons (.nil _) (f2_ (.cons (.nil _) (.cons (.nil _) (.cons (.nil _) (Yo (f2_ (f1_ (.cons (.nil _) .nil)))))))))))))))) p1))⟩
  refine ifT (Z04 hc21 (by decide)) ?_;apply iU h<;>intro h
  ·refine cP h Q12 (.cons (Ar (Yo (Yo (Yo (f2_ (f1_ (.cons (.p _) p5))))))) .nil) fun v26 h=>?_;obtain rfl:=Qt h;exact ⟨1,rfl,(Au (.cons (Ar (Yo (Yo (Yo (f2_ (f1_ (.cons (.p _) p5))))))) p1))⟩
  apply iU h<;>intro h
  ·obtain rfl:=Qt h;exact ⟨1,rfl,(Au (.cons (Ar (f8_ (.cons (.nil _) (.cons (.p _) (.cons (.nil _) (Yo (f4_ (.cons (.nil _) (f2_ (.cons (.nil _) (.cons (.nil _) (.cons (.nil _) (Yo (f2_ (f1_ (.cons (.nil _) .nil)))))))))))))))) p1))⟩
  refine Qe k30 ?_;refine Qe k53 ?_;apply iU h<;>intro h
  ·refine cRg h Q2k (b:=1) rfl (.cons (.p _) (.cons (Ar (f8_ (.cons (.nil _) (.cons (.p _) (.cons (.nil _) (Yo (f4_ (.cons (.nil _) (f2_ (.cons (.nil _) (.cons (.nil _) (.cons (.nil _) (Yo (f2_ (f1_ (.cons (.nil _) .nil)))))))))))))))) .nil)) fun v30 h=>?_;apply iU h<;>intro h
   ·obtain rfl:=Qt h;exact ⟨11,rfl,(Au (.cons (Ar (f8_ (.cons (.nil _) (.cons (.p _) (.cons (.nil _) (Yo (f4_ (.cons (.nil _) (f2_ (.cons (.nil _) (.cons (.nil _) (.cons (.nil _) (Yo (f2_ (f1_ (.cons (.nil _) .nil)))))))))))))))) p1))⟩
   obtain rfl:=Qt h;exact ⟨11,rfl,(Au (.cons (Ar (f8_ (.cons (.nil _) (.cons (.p _) (.cons (.nil _) (Yo (f4_ (.cons (.nil _) (f2_ (.cons (.nil _) (.cons (.nil _) (.cons (.nil _) (Yo (f2_ (f1_ (.cons (.nil _) .nil)))))))))))))))) p1))⟩
  refine cRg h Q8g (b:=1) rfl p2 fun v33 h=>?_;apply iU h<;>intro h
  ·obtain rfl:=Qt h;exact ⟨11,rfl,(Au (.cons (Ar (f8_ (.cons (.nil _) (.cons (.p _) (.cons (.nil _) (Yo (f4_ (.cons (.nil _) (f2_ (.cons (.nil _) (.cons (.nil _) (.cons (.nil _) (Yo (f2_ (f1_ (.cons (.nil _) .nil)))))))))))))))) p1))⟩
  refine cRg h Q48 (b:=11) rfl p2 fun v36 h=>?_;apply iU h<;>intro h
  ·refine cRg h Q2k (b:=12) rfl (.cons (.p _) (.cons (Ar (f8_ (.cons (.nil _) (.cons (.p _) (.cons (.nil _) (Yo (f4_ (.cons (.nil _) (f2_ (.cons (.nil _) (.cons (.nil _) (.cons (.nil _) (Yo (f2_ (f1_ (.cons (.nil _) .nil)))))))))))))))) .nil)) fun v39 h=>?_;apply iU h<;>intro h
   ·obtain rfl:=Qt h;exact ⟨13,rfl,(Au (.cons (Ar (f8_ (.cons (.nil _) (.cons (.p _) (.cons (.nil _) (Yo (f4_ (.cons (.nil _) (f2_ (.cons (.nil _) (.cons (.nil _) (.cons (.nil _) (Yo (f2_ (f1_ (.cons (.nil _) .nil)))))))))))))))) p1))⟩
   obtain rfl:=Qt h;exact ⟨13,rfl,(Au (.cons (Ar (f8_ (.cons (.nil _) (.cons (.p _) (.cons (.nil _) (Yo (f4_ (.cons (.nil _) (f2_ (.cons (.nil _) (.cons (.nil _) (.cons (.nil _) (Yo (f2_ (f1_ (.cons (.nil _) .nil)))))))))))))))) p1))⟩
  refine cRg h Q2k (b:=12) rfl (.cons (.p _) (.cons (Ar (f8_ (.cons (.nil _) (.cons (.p _) (.cons (.nil _) (Yo (f4_ (.cons (.nil _) (f2_ (.cons (.nil _) (.cons (.nil _) (.cons (.nil _) (Yo (f2_ (f1_ (.cons (.nil _) .nil)))))))))))))))) .nil)) fun v42 h=>?_;apply iU h<;>intro h
  ·obtain rfl:=Qt h;exact ⟨13,rfl,(Au (.cons (Ar (f8_ (.cons (.nil _) (.cons (.p _) (.cons (.nil _) (Yo (f4_ (.cons (.nil _) (f2_ (.cons (.nil _) (.cons (.nil _) (.cons (.nil _) (Yo (f2_ (f1_ (.cons (.nil _) .nil)))))))))))))))) p1))⟩
  obtain rfl:=Qt h;exact ⟨13,rfl,(Au (.cons (Ar (f8_ (.cons (.nil _) (.cons (.p _) (.cons (.nil _) (Yo (f4_ (.cons (.nil _) (f2_ (.cons (.nil _) (.cons (.nil _) (.cons (.nil _) (Yo (f2_ (f1_ (.cons (.nil _) .nil)))))))))))))))) p1))⟩
 refine ifO h (fun hc45 h=>?_) (fun hc45 h=>?_)
 ·refine cP h Ud (.cons (Ar (Yo (Yo (Yo (f2_ (f1_ (.cons (.p _) p5))))))) .nil) fun v46 h=>?_;apply iU h<;>intro h
  ·obtain rfl:=Qt h;exact ⟨1,rfl,(Au (.cons (Ar (f8_ (.cons (.nil _) (.cons (.p _) (.cons (.nil _) (Yo (f4_ (.cons (.nil _) (f2_ (.cons (.nil _) (.cons (.nil _) (.cons (.nil _) (Yo (f2_ (f1_ (.cons (.nil _) .nil)))))))))))))))) p1))⟩
  refine ifF (Z04 hc45 (by decide)) ?_;apply iU h<;>intro h
  ·refine cP h Q12 (.cons (Ar (Yo (Yo (Yo (f2_ (f1_ (.cons (.p _) p5))))))) .nil) fun v50 h=>?_;obtain rfl:=Qt h;exact ⟨1,rfl,(Au (.cons (Ar (Yo (Yo (Yo (f2_ (f1_ (.cons (.p _) p5))))))) p1))⟩
  apply iU h<;>intro h
  ·obtain rfl:=Qt h;exact ⟨1,rfl,(Au (.cons (Ar (f8_ (.cons (.nil _) (.cons (.p _) (.cons (.nil _) (Yo (f4_ (.cons (.nil _) (f2_ (.cons (.nil _) (.cons (.nil _) (.cons (.nil _) (Yo (f2_ (f1_ (.cons (.nil _) .nil)))))))))))))))) p1))⟩
  refine Qe k29 ?_;apply iU h<;>intro h
  ·obtain rfl:=Qt h;exact ⟨1,rfl,(Au (.cons (Ar (f8_ (.cons (.nil _) (.cons (.p _) (.cons (.nil _) (Yo (f4_ (.cons (.nil _) (f2_ (.cons (.nil _) (.cons (.nil _) (.cons (.nil _) (Yo (f2_ (f1_ (.cons (.nil _) .nil)))))))))))))))) p1))⟩
  apply iU h<;>intro h
  ·refine Qe k53 ?_;obtain rfl:=Qt h;exact ⟨1,rfl,(Au (.cons (Ar (f8_ (.cons (.nil _) (.cons (.p _) (.cons (.nil _) (Yo (f4_ (.cons (.nil _) (f2_ (.cons (.nil _) (.cons (.nil _) (.cons (.nil _) (Yo (f2_ (f1_ (.cons (.nil _) .nil)))))))))))))))) p1))⟩
  refine Qe k53 ?_;obtain rfl:=Qt h;exact ⟨1,rfl,(Au (.cons (Ar (f8_ (.cons (.nil _) (.cons (.p _) (.cons (.nil _) (Yo (f4_ (.cons (.nil _) (f2_ (.cons (.nil _) (.cons (.nil _) (.cons (.nil _) (Yo (f2_ (f1_ (.cons (.nil _) .nil)))))))))))))))) p1))⟩
 obtain rfl:=Qt h;exact ⟨1,rfl,(Au (.cons (Ar (f8_ (.cons (.nil _) (.cons (.p _) (.cons (.nil _) (Yo (f4_ (.cons (.nil _) (f2_ (.cons (.nil _) (.cons (.nil _) (.cons (.nil _) (Yo (f2_ (f1_ (.cons (.nil _) .nil)))))))))))))))) p1))⟩
def Q09 (N:Nat) (R0:Reg) (client:List UInt8) (e:Qa) (proto:Int):Option ((Bool)×Reg):=
 (Q0f N R0 client e proto).bind fun v1=>
 some ((Q5 .eql v1.1.2 0),v1.2)
theorem Qe8 {N} {R0} {client} {e} {proto} {r} (h:Q09 N R0 client e proto=some r):Q3x Tryz.prog G1 11 R0 [.str client,.agg (Qa.cells e),.int .i64 proto] (.bool r.1) r.2:=by
 refine Qa3 k11 ?_;unfold Q09 at h;rw [cX] at h;refine cRg h Q9i (b:=1) rfl (.cons (.p _) (.cons (Ar (Yo (Yo (Yo (f2_ (f1_ (.cons (.p _) p5))))))) p1)) fun v1 h=>?_;obtain rfl:=Qt h;exact ⟨3,rfl,(.p _)⟩
def Xc (N:Nat) (a:List Z8) (b:List Z8):Nat→Int→Option Bool
 | 0,_=>none
 | n+1,i17=>
  cond (Q5 .lss i17 ((Q8 Z8.cells a).length:Int))
  ((idx a i17).bind fun y19=>
  (idx b i17).bind fun y21=>
  cond (!(((y19.ID:Int) == y21.ID)&&(((y19.N':Int) == y21.N')&&(((y19.Text:List UInt8) == y21.Text)&&(((y19.Value:List UInt8) == y21.Value)&&true)))))
  (some false)
  (Xc N a b n (wrap .i64 (i17+1))))
  (some true)
def Xi (N:Nat) (a:List Z8) (b:List Z8):Option Bool:=
 cond (Q5 .neq ((Q8 Z8.cells a).length:Int) ((Q8 Z8.cells b).length:Int))
 (some false)
 (Xc N a b N 0)
theorem J8 {N} {a} {b} {r} (h:Xi N a b=some r):pU 33 [.slice 4 (Q8 Z8.cells a),.slice 4 (Q8 Z8.cells b)] (.bool r):=by
 refine Q3 k33 ?_;unfold Xi at h;rw [cX] at h;refine iL h fun h=>?_;refine lpH (τ:=Int) (fun i17=>(.p (.slice 4 (Q8 Z8.cells a)) :: .p (.slice 4 (Q8 Z8.cells b))::a2 (.any::iI i17::a16 (a4 ([]))):List AV)) (fun n0 i17=>Xc N a b n0 i17) (0) h fun n0 i17 h=>?_
 first | rw [Xc] at h | simp only [Xc] at h
 rw [cX] at h;refine iR h fun h=>?_;refine Qi ?_;refine xR h fun y19 h=>?_;refine xR h fun y21 h=>?_;refine iL h fun h=>?_;show Exists _;exact ⟨(n0,(wrap .i64 (i17+1))),h,Lg _,(fun i=>i),Yq⟩
def Xf (N:Nat) (a:List Wz) (b:List Wz):Nat→Int→Option Bool
 | 0,_=>none
 | n+1,i17=>
  cond (Q5 .lss i17 ((Q8 Wz.cells a).length:Int))
  ((idx a i17).bind fun y19=>
  (idx b i17).bind fun y21=>
  cond (!(((y19.Radius:Int) == y21.Radius)&&(((y19.Node:List UInt8) == y21.Node)&&true)))
  (some false)
  (Xf N a b n (wrap .i64 (i17+1))))
  (some true)
def Vg (N:Nat) (a:List Wz) (b:List Wz):Option Bool:=
 cond (Q5 .neq ((Q8 Wz.cells a).length:Int) ((Q8 Wz.cells b).length:Int))
 (some false)
 (Xf N a b N 0)
theorem Q52 {N} {a} {b} {r} (h:Vg N a b=some r):pU 34 [.slice 2 (Q8 Wz.cells a),.slice 2 (Q8 Wz.cells b)] (.bool r):=by
 refine Q3 k34 ?_;unfold Vg at h;rw [cX] at h;refine iL h fun h=>?_;refine lpH (τ:=Int) (fun i17=>(.p (.slice 2 (Q8 Wz.cells a)) :: .p (.slice 2 (Q8 Wz.cells b))::a2 (.any::iI i17::a16 (a4 ([]))):List AV)) (fun n0 i17=>Xf N a b n0 i17) (0) h fun n0 i17 h=>?_
 first | rw [Xf] at h | simp only [Xf] at h
 rw [cX] at h;refine iR h fun h=>?_;refine Qi ?_;refine xR h fun y19 h=>?_;refine xR h fun y21 h=>?_;refine iL h fun h=>?_;show Exists _;exact ⟨(n0,(wrap .i64 (i17+1))),h,Lg _,(fun i=>i),Yq⟩
def Xg (N:Nat) (a:List Int) (b:List Int):Nat→Int→Option Bool
 | 0,_=>none
 | n+1,i17=>
  cond (Q5 .lss i17 ((Q8 (cI .i64) a).length:Int))
  ((idx a i17).bind fun y19=>
  (idx b i17).bind fun y21=>
  cond (Q5 .neq y19 y21)
  (some false)
  (Xg N a b n (wrap .i64 (i17+1))))
  (some true)
def Vf (N:Nat) (a:List Int) (b:List Int):Option Bool:=
 cond (Q5 .neq ((Q8 (cI .i64) a).length:Int) ((Q8 (cI .i64) b).length:Int))
 (some false)
 (Xg N a b N 0)
theorem Q5f {N} {a} {b} {r} (h:Vf N a b=some r):pU 76 [.slice 1 (Q8 (cI .i64) a),.slice 1 (Q8 (cI .i64) b)] (.bool r):=by
 refine Q3 k76 ?_;unfold Vf at h;rw [cX] at h;refine iL h fun h=>?_;refine lpH (τ:=Int) (fun i17=>(.p (.slice 1 (Q8 (cI .i64) a)) :: .p (.slice 1 (Q8 (cI .i64) b))::a2 (.any::iI i17::a16 (a4 ([]))):List AV)) (fun n0 i17=>Xg N a b n0 i17) (0) h fun n0 i17 h=>?_
 first | rw [Xg] at h | simp only [Xg] at h
 rw [cX] at h;refine iR h fun h=>?_;refine Qi ?_;refine xR h fun y19 h=>?_;refine xR h fun y21 h=>?_;refine iL h fun h=>?_;show Exists _;exact ⟨(n0,(wrap .i64 (i17+1))),h,Lg _,(fun i=>i),Yq⟩
def Yj (N:Nat) (a:List Qx) (b:List Qx):Nat→Int→Option Bool
 | 0,_=>none
 | n+1,i17=>
  cond (Q5 .lss i17 ((Q8 Qx.cells a).length:Int))
  ((idx a i17).bind fun y19=>
  (idx b i17).bind fun y21=>
  cond (!(((y19.Topic:List UInt8) == y21.Topic)&&(((y19.QoS:Int) == y21.QoS)&&(((y19.NoLocal:Bool) == y21.NoLocal)&&(((y19.AsPublished:Bool) == y21.AsPublished)&&(((y19.Handling:Int) == y21.Handling)&&true))))))
  (some false)
  (Yj N a b n (wrap .i64 (i17+1))))
  (some true)
def W0 (N:Nat) (a:List Qx) (b:List Qx):Option Bool:=
 cond (Q5 .neq ((Q8 Qx.cells a).length:Int) ((Q8 Qx.cells b).length:Int))
 (some false)
 (Yj N a b N 0)
theorem Q3r {N} {a} {b} {r} (h:W0 N a b=some r):pU 77 [.slice 5 (Q8 Qx.cells a),.slice 5 (Q8 Qx.cells b)] (.bool r):=by
 refine Q3 k77 ?_;unfold W0 at h;rw [cX] at h;refine iL h fun h=>?_;refine lpH (τ:=Int) (fun i17=>(.p (.slice 5 (Q8 Qx.cells a)) :: .p (.slice 5 (Q8 Qx.cells b))::a2 (.any::iI i17::a16 (a4 ([]))):List AV)) (fun n0 i17=>Yj N a b n0 i17) (0) h fun n0 i17 h=>?_
 first | rw [Yj] at h | simp only [Yj] at h
 rw [cX] at h;refine iR h fun h=>?_;refine Qi ?_;refine xR h fun y19 h=>?_;refine xR h fun y21 h=>?_;refine iL h fun h=>?_;show Exists _;exact ⟨(n0,(wrap .i64 (i17+1))),h,Lg _,(fun i=>i),Yq⟩
def Wb (N:Nat) (a:Qp) (b:Qp):Option Bool:=
 cond (Q0k .neq a.Will.Topic b.Will.Topic)
 (some false)
 (cond (Q0k .neq a.Will.Payload b.Will.Payload)
 (some false)
 (cond (Q5 .neq a.Will.QoS b.Will.QoS)
 (some false)
 (cond (!(a.Will.Retain == b.Will.Retain))
 (some false)
 ((Xi N a.Will.Props b.Will.Props).bind fun v5=>
 cond (!v5)
 (some false)
 (cond (Q5 .neq a.Kind b.Kind)
 (some false)
 (cond (!(a.Dup == b.Dup))
 (some false)
 (cond (!(a.Retain == b.Retain))
 (some false)
 (cond (Q5 .neq a.QoS b.QoS)
 (some false)
 (cond (Q5 .neq a.ID b.ID)
 (some false)
 (cond (Q0k .neq a.Topic b.Topic)
 (some false)
 (cond (Q0k .neq a.Payload b.Payload)
 (some false)
 (cond (!(a.Clean == b.Clean))
 (some false)
 (cond (Q5 .neq a.KeepAlive b.KeepAlive)
 (some false)
 (cond (Q0k .neq a.Client b.Client)
 (some false)
 (cond (!(a.HasUser == b.HasUser))
 (some false)
 (cond (Q0k .neq a.User b.User)
 (some false)
 (cond (!(a.HasPass == b.HasPass))
 (some false)
 (cond (Q0k .neq a.Pass b.Pass)
 (some false)
 (cond (!(a.HasWill == b.HasWill))
 (some false)
 (cond (!(a.Session == b.Session))
 (some false)
 (cond (Q5 .neq a.Code b.Code)
 (some false)
 ((Vf N a.Codes b.Codes).bind fun v25=>
 cond v25
 ((W0 N a.Filters b.Filters).bind fun v28=>
 cond v28
 ((Xi N a.Props b.Props).bind fun v31=>
 some v31)
 (some false))
 (some false)))))))))))))))))))))))
theorem Q0r {N} {a} {b} {r} (h:Wb N a b=some r):pU 35 [.agg (Qp.cells a),.agg (Qp.cells b)] (.bool r):=by
 refine Q3 k35 ?_;unfold Wb at h;rw [cX,cY] at h;refine Qi ?_;refine iL h fun h=>?_;refine iL h fun h=>?_;refine iL h fun h=>?_;refine iL h fun h=>?_;refine cP h J8 p2 fun v5 h=>?_;refine iL h fun h=>?_;refine iL h fun h=>?_;refine iL h fun h=>?_;refine iL h fun h=>?_;refine iL h fun h=>?_;refine iL h fun h=>?_;refine iL h fun h=>?_;refine iL h fun h=>?_;refine iL h fun h=>?_;refine iL h fun h=>?_;refine iL h fun h=>?_;refine iL h fun h=>?_;refine iL h fun h=>?_;refine iL h fun h=>?_;refine iL h fun h=>?_;refine iL h fun h=>?_;refine iL h fun h=>?_;refine iL h fun h=>?_;refine cP h Q5f p2 fun v25 h=>?_;refine iR h fun h=>?_;refine cP h Q3r p2 fun v28 h=>?_;refine iR h fun h=>?_;refine cP h J8 p2 fun v31 h=>?_;cases h;exact (.p _)
def Yl (rz:Q0→Q0→Option Bool) (N:Nat) (a:Q0) (b:Q0):Nat→Int→Option Bool
 | 0,_=>none
 | n+1,i22=>
  cond (Q5 .lss i22 ((Q0.rows a.Items).length:Int))
  ((idx a.Items i22).bind fun y24=>
  (idx b.Items i22).bind fun y26=>
  (rz y24 y26).bind fun v28=>
  cond (!v28)
  (some false)
  (Yl rz N a b n (wrap .i64 (i22+1))))
  (some true)
def Un (rz:Q0→Q0→Option Bool) (N:Nat) (a:Q0) (b:Q0):Option Bool:=
 cond (Q5 .neq a.Kind b.Kind)
 (some false)
 (cond (Q5 .neq a.N' b.N')
 (some false)
 (cond (Q0k .neq a.Text b.Text)
 (some false)
 (cond (Q5 .neq ((Q0.rows a.Items).length:Int) ((Q0.rows b.Items).length:Int))
 (some false)
 (Yl rz N a b N 0))))
theorem Q5r {rz:Q0→Q0→Option Bool} (hy1:∀ {a} {b} {r},rz a b=some r→pU 78 [.agg (Q0.cells a),.agg (Q0.cells b)] (.bool r)) {N} {a} {b} {r} (h:Un rz N a b=some r):pU 78 [.agg (Q0.cells a),.agg (Q0.cells b)] (.bool r):=by
 refine Q3 k78 ?_;unfold Un at h;rw [cX,cY] at h;refine iL h fun h=>?_;refine iL h fun h=>?_;refine iL h fun h=>?_;refine iL h fun h=>?_;refine lpH (τ:=Int) (fun i22=>(.any :: .any :: .ptr 0 0 :: .ptr 1 0 :: .any::iI i22::a16 (a16 (a8 (a4 (a2 (.any :: []))))):List AV)) (fun n0 i22=>Yl rz N a b n0 i22) (0) h fun n0 i22 h=>?_
 first | rw [Yl] at h | simp only [Yl] at h
 rw [cX] at h;refine iR h fun h=>?_;refine Qi ?_;refine Q0.xR h fun y24 h=>?_;refine Q0.xR h fun y26 h=>?_;refine cD h hy1 (.cons q4 (.cons q4 .nil)) fun v28 h=>?_;refine iL h fun h=>?_;show Exists _;exact ⟨(n0,(wrap .i64 (i22+1))),h,Lg _,(fun i=>i),Yq⟩
def Xj:Nat→Q0→Q0→Option Bool
 | 0=>fun _ _=>none
 | N+1=>Un (Xj N) N
theorem Q54 {N} {a} {b} {r} (h:Xj N a b=some r):pU 78 [.agg (Q0.cells a),.agg (Q0.cells b)] (.bool r):=by
 induction N generalizing a b r with
 | zero=>simp [Xj] at h
 | succ N ih=>exact Q5r (fun h=>ih h) h
def Zu (N:Nat) (a:Zg) (b:Zg):Nat→Int→Option Bool
 | 0,_=>none
 | n+1,i22=>
  cond (Q5 .lss i22 ((Q0.rows a.Values).length:Int))
  ((idx a.Values i22).bind fun y24=>
  (idx b.Values i22).bind fun y26=>
  (Xj N y24 y26).bind fun v28=>
  cond (!v28)
  (some false)
  (Zu N a b n (wrap .i64 (i22+1))))
  (some true)
def W9 (N:Nat) (a:Zg) (b:Zg):Option Bool:=
 cond (Q5 .neq a.Type' b.Type')
 (some false)
 (cond (Q5 .neq a.Channel b.Channel)
 (some false)
 (cond (Q0k .neq a.Ext b.Ext)
 (some false)
 (cond (Q5 .neq ((Q0.rows a.Values).length:Int) ((Q0.rows b.Values).length:Int))
 (some false)
 (Zu N a b N 0))))
theorem Q11 {N} {a} {b} {r} (h:W9 N a b=some r):pU 36 [.agg (Zg.cells a),.agg (Zg.cells b)] (.bool r):=by
 refine Q3 k36 ?_;unfold W9 at h;rw [cX,cY] at h;refine iL h fun h=>?_;refine iL h fun h=>?_;refine iL h fun h=>?_;refine iL h fun h=>?_;refine lpH (τ:=Int) (fun i22=>(.any :: .any :: .ptr 0 0 :: .ptr 1 0 :: .any::iI i22::a16 (a16 (a8 (a4 (a2 (.any :: []))))):List AV)) (fun n0 i22=>Zu N a b n0 i22) (0) h fun n0 i22 h=>?_
 first | rw [Zu] at h | simp only [Zu] at h
 rw [cX] at h;refine iR h fun h=>?_;refine Qi ?_;refine Q0.xR h fun y24 h=>?_;refine Q0.xR h fun y26 h=>?_;refine cD h Q54 (.cons q4 (.cons q4 .nil)) fun v28 h=>?_;refine iL h fun h=>?_;show Exists _;exact ⟨(n0,(wrap .i64 (i22+1))),h,Lg _,(fun i=>i),Yq⟩
def Zr (N:Nat) (a:Qa) (b:Qa):Option Bool:=
 cond (Q5 .eql a.Proto b.Proto)
 (cond (Q5 .eql a.Kind b.Kind)
 (cond (Q0k .eql a.Topic b.Topic)
 (cond (Q0k .eql a.Payload b.Payload)
 (cond (Q5 .eql a.QoS b.QoS)
 (cond (a.Retain == b.Retain)
 (cond (a.Dup == b.Dup)
 (cond (Q5 .eql a.ID b.ID)
 ((Xi N a.Props b.Props).bind fun v9=>
 cond v9
 (cond (Q5 .eql a.Type' b.Type')
 ((Vg N a.Hops b.Hops).bind fun v13=>
 cond v13
 (cond (Q5 .eql a.Channel b.Channel)
 ((Wb N a.Packet b.Packet).bind fun v17=>
 cond v17
 (cond (((a.Msg.Type':Int) == b.Msg.Type')&&(((a.Msg.Flags.Dup:Bool) == b.Msg.Flags.Dup)&&(((a.Msg.Flags.QoS:Int) == b.Msg.Flags.QoS)&&(((a.Msg.Flags.Retain:Bool) == b.Msg.Flags.Retain)&&(((a.Msg.Flags.Will:Bool) == b.Msg.Flags.Will)&&(((a.Msg.Flags.Clean:Bool) == b.Msg.Flags.Clean)&&(((a.Msg.Flags.Type':Int) == b.Msg.Flags.Type')&&(((a.Msg.Gateway:Int) == b.Msg.Gateway)&&(((a.Msg.Radius:Int) == b.Msg.Radius)&&(((a.Msg.Time:Int) == b.Msg.Time)&&(((a.Msg.Timed:Bool) == b.Msg.Timed)&&(((a.Msg.TopicID:Int) == b.Msg.TopicID)&&(((a.Msg.MsgID:Int) == b.Msg.MsgID)&&(((a.Msg.Code:Int) == b.Msg.Code)&&(((a.Msg.Name:List UInt8) == b.Msg.Name)&&(((a.Msg.Data:List UInt8) == b.Msg.Data)&&true))))))))))))))))
 ((W9 N a.Frame b.Frame).bind fun v21=>
 some v21)
 (some false))
 (some false))
 (some false))
 (some false))
 (some false))
 (some false))
 (some false))
 (some false))
 (some false))
 (some false))
 (some false))
 (some false))
 (some false))
 (some false)
theorem Q0t {N} {a} {b} {r} (h:Zr N a b=some r):pU 12 [.agg (Qa.cells a),.agg (Qa.cells b)] (.bool r):=by
 refine Q3 k12 ?_;unfold Zr at h;rw [cX,cY] at h;refine iR h fun h=>?_;refine iR h fun h=>?_;refine iR h fun h=>?_;refine iR h fun h=>?_;refine iR h fun h=>?_;refine iR h fun h=>?_;refine iR h fun h=>?_;refine iR h fun h=>?_;refine cP h J8 p2 fun v9 h=>?_;refine iR h fun h=>?_;refine iR h fun h=>?_;refine cP h Q52 p2 fun v13 h=>?_;refine iR h fun h=>?_;refine iR h fun h=>?_;refine cP h Q0r (.cons (Ar (Yo (f2_ (f1_ (.cons (.p _) p5))))) (.cons (Ar (Yo (f2_ (f1_ (.cons (.p _) p5))))) .nil)) fun v17 h=>?_;refine iR h fun h=>?_;refine Qlm (ks := [0,2,0,2,2,2,0,0,0,0,2,0,0,0,1,1]) (xs := [iI a.Msg.Type',.p (.bool a.Msg.Flags.Dup),iI a.Msg.Flags.QoS,.p (.bool a.Msg.Flags.Retain),.p (.bool a.Msg.Flags.Will),.p (.bool a.Msg.Flags.Clean),iI a.Msg.Flags.Type',iI a.Msg.Gateway,iI a.Msg.Radius,iI a.Msg.Time,.p (.bool a.Msg.Timed),iI a.Msg.TopicID,iI a.Msg.MsgID,iI a.Msg.Code,iS a.Msg.Name,iS a.Msg.Data]) (ys := [iI b.Msg.Type',.p (.bool b.Msg.Flags.Dup),iI b.Msg.Flags.QoS,.p (.bool b.Msg.Flags.Retain),.p (.bool b.Msg.Flags.Will),.p (.bool b.Msg.Flags.Clean),iI b.Msg.Flags.Type',iI b.Msg.Gateway,iI b.Msg.Radius,iI b.Msg.Time,.p (.bool b.Msg.Timed),iI b.Msg.TopicID,iI b.Msg.MsgID,iI b.Msg.Code,iS b.Msg.Name,iS b.Msg.Data]) (b:=(((a.Msg.Type':Int) == b.Msg.Type')&&(((a.Msg.Flags.Dup:Bool) == b.Msg.Flags.Dup)&&(((a.Msg.Flags.QoS:Int) == b.Msg.Flags.QoS)&&(((a.Msg.Flags.Retain:Bool) == b.Msg.Flags.Retain)&&(((a.Msg.Flags.Will:Bool) == b.Msg.Flags.Will)&&(((a.Msg.Flags.Clean:Bool) == b.Msg.Flags.Clean)&&(((a.Msg.Flags.Type':Int) == b.Msg.Flags.Type')&&(((a.Msg.Gateway:Int) == b.Msg.Gateway)&&(((a.Msg.Radius:Int) == b.Msg.Radius)&&(((a.Msg.Time:Int) == b.Msg.Time)&&(((a.Msg.Timed:Bool) == b.Msg.Timed)&&(((a.Msg.TopicID:Int) == b.Msg.TopicID)&&(((a.Msg.MsgID:Int) == b.Msg.MsgID)&&(((a.Msg.Code:Int) == b.Msg.Code)&&(((a.Msg.Name:List UInt8) == b.Msg.Name)&&(((a.Msg.Data:List UInt8) == b.Msg.Data)&&true))))))))))))))))) rfl ?_;refine iR h fun h=>?_;refine cP h Q11 (.cons q4 (.cons q4 .nil)) fun v21 h=>?_;cases h;exact (.p _)
def Wh (rv:Int→Option (List UInt8)) (_N:Nat) (n_0:Int):Option (List UInt8):=
 cond (Q5 .lss n_0 10)
 (cond (decide (0≤n_0)) (cond (decide (0≤(wrap .u64 (n_0+1)))) (cond (Nat.ble n_0.toNat ((wrap .u64 (n_0+1)).toNat)&&Nat.ble ((wrap .u64 (n_0+1)).toNat) ([48,49,50,51,52,53,54,55,56,57]:List UInt8).length) (some ((([48,49,50,51,52,53,54,55,56,57]:List UInt8).take ((wrap .u64 (n_0+1)).toNat)).drop n_0.toNat)) none) none) none)
 ((rv (wrap .u64 ((n_0:Int).tdiv 10))).bind fun v5=>
 cond (decide (0≤((n_0:Int).tmod 10))) (cond (decide (0≤(wrap .u64 (((n_0:Int).tmod 10)+1)))) (cond (Nat.ble ((n_0:Int).tmod 10).toNat ((wrap .u64 (((n_0:Int).tmod 10)+1)).toNat)&&Nat.ble ((wrap .u64 (((n_0:Int).tmod 10)+1)).toNat) ([48,49,50,51,52,53,54,55,56,57]:List UInt8).length) (cond (Nat.ble (v5.length+((([48,49,50,51,52,53,54,55,56,57]:List UInt8).take ((wrap .u64 (((n_0:Int).tmod 10)+1)).toNat)).drop (((n_0:Int).tmod 10).toNat)).length) 4611686018427387904) (some (v5++((([48,49,50,51,52,53,54,55,56,57]:List UInt8).take ((wrap .u64 (((n_0:Int).tmod 10)+1)).toNat)).drop (((n_0:Int).tmod 10).toNat)))) none) none) none) none)
theorem Q44 {rv:Int→Option (List UInt8)} (hx1:∀ {n_0} {r},rv n_0=some r→pU 79 [.int .u64 n_0] (.str r)) {N} {n_0} {r} (h:Wh rv N n_0=some r):pU 79 [.int .u64 n_0] (.str r):=by
 refine Q3 k79 ?_;unfold Wh at h;rw [cX] at h;apply iU h<;>intro h
 ·refine kU h fun h=>?_;refine kU h fun h=>?_;refine kU h fun h=>?_;cases h;exact (.p _)
 refine Qi ?_;refine cD h hx1 p1 fun v5 h=>?_;refine kU h fun h=>?_;refine kU h fun h=>?_;refine kU h fun h=>?_;refine kU h fun h=>?_;cases h;exact (.p _)
def Yz:Nat→Int→Option (List UInt8)
 | 0=>fun _=>none
 | N+1=>Wh (Yz N) N
theorem Gy {N} {n_0} {r} (h:Yz N n_0=some r):pU 79 [.int .u64 n_0] (.str r):=by
 induction N generalizing n_0 r with
 | zero=>simp [Yz] at h
 | succ N ih=>exact Q44 (fun h=>ih h) h
def Z7 (N:Nat) (n_0:Int):Option (List UInt8):=
 cond (Q5 .lss n_0 0)
 ((Yz N (wrap .u64 (0 - (wrap .u64 n_0)))).bind fun v2=>
 cond (Nat.ble ([45].length+v2.length) 4611686018427387904) (some ([45]++v2)) none)
 ((Yz N (wrap .u64 n_0)).bind fun v5=>
 some v5)
theorem Yt {N} {n_0} {r} (h:Z7 N n_0=some r):pU 37 [.int .i64 n_0] (.str r):=by
 refine Q3 k37 ?_;unfold Z7 at h;rw [cX] at h;apply iU h<;>intro h
 ·refine cP h Gy p1 fun v2 h=>?_;refine kU h fun h=>?_;cases h;exact (.p _)
 refine cP h Gy p1 fun v5 h=>?_;cases h;exact (.p _)
end
end
end Go.Av
