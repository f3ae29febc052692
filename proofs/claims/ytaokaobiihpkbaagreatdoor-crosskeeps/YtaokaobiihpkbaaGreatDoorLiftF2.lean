/- Part of the proof of CrossKeeps: for every input the law returns true; no condition. -/
import Derived.Test.YtaokaobiihpkbaaGreatDoorLiftF1
set_option linter.all false
open Go.IntKind (wrap)
namespace Go.Av
noncomputable section
open Go.Proofs
set_option maxRecDepth 100000
set_option maxHeartbeats 4000000
attribute [local irreducible] Xu Qw Q8g Q7d Qru Qrc Qi6
section
def Q1o (N:Nat) (m:U2):Option Int:=
 (Q1l N m.Type').bind fun v1=>
 cond (!v1)
 (some 8)
 ((Q4k N m.Type' m.Flags).bind fun v4=>
 cond (!v4)
 (some 7)
 ((Q4l N m.Type').bind fun v7=>
 cond v7
 (cond (G9 .eql m.Name [])
 (cond (!(((m.Flags.Dup:Bool) == false)&&(((m.Flags.QoS:Int) == 0)&&(((m.Flags.Retain:Bool) == false)&&(((m.Flags.Will:Bool) == false)&&(((m.Flags.Clean:Bool) == false)&&(((m.Flags.Type':Int) == 0)&&true)))))))
 (some 7)
 ((Yp N (⟨2,m,[],false⟩:Qh)).bind fun v12=>
 cond v12.2.bad
 (some 2)
 (cond (!(((v12.2.m.Type':Int) == m.Type')&&(((v12.2.m.Flags.Dup:Bool) == m.Flags.Dup)&&(((v12.2.m.Flags.QoS:Int) == m.Flags.QoS)&&(((v12.2.m.Flags.Retain:Bool) == m.Flags.Retain)&&(((v12.2.m.Flags.Will:Bool) == m.Flags.Will)&&(((v12.2.m.Flags.Clean:Bool) == m.Flags.Clean)&&(((v12.2.m.Flags.Type':Int) == m.Flags.Type')&&(((v12.2.m.Gateway:Int) == 0)&&(((v12.2.m.Radius:Int) == 0)&&(((v12.2.m.Time:Int) == 0)&&(((v12.2.m.Timed:Bool) == false)&&(((v12.2.m.TopicID:Int) == 0)&&(((v12.2.m.MsgID:Int) == 0)&&(((v12.2.m.Code:Int) == 0)&&(((v12.2.m.Name:List UInt8) == [])&&(((v12.2.m.Data:List UInt8) == [])&&true)))))))))))))))))
 (some 2)
 ((Jr N m).bind fun v16=>
 cond (!v16)
 (some 2)
 ((Uh N m).bind fun v19=>
 cond (Q4 .neq v19 0)
 (some v19)
 ((Q06 N m).bind fun v22=>
 cond (Q4 .neq v22 0)
 (some v22)
 ((Jk N m).bind fun v25=>
 (V6 N m.Type' (v25.length:Int)).bind fun v27=>
 some v27.2)))))))
 ((Yp N (⟨2,m,[],false⟩:Qh)).bind fun v29=>
 cond v29.2.bad
 (some 2)
 (cond (!(((v29.2.m.Type':Int) == m.Type')&&(((v29.2.m.Flags.Dup:Bool) == m.Flags.Dup)&&(((v29.2.m.Flags.QoS:Int) == m.Flags.QoS)&&(((v29.2.m.Flags.Retain:Bool) == m.Flags.Retain)&&(((v29.2.m.Flags.Will:Bool) == m.Flags.Will)&&(((v29.2.m.Flags.Clean:Bool) == m.Flags.Clean)&&(((v29.2.m.Flags.Type':Int) == m.Flags.Type')&&(((v29.2.m.Gateway:Int) == 0)&&(((v29.2.m.Radius:Int) == 0)&&(((v29.2.m.Time:Int) == 0)&&(((v29.2.m.Timed:Bool) == false)&&(((v29.2.m.TopicID:Int) == 0)&&(((v29.2.m.MsgID:Int) == 0)&&(((v29.2.m.Code:Int) == 0)&&(((v29.2.m.Name:List UInt8) == [])&&(((v29.2.m.Data:List UInt8) == [])&&true)))))))))))))))))
 (some 2)
 ((Jr N m).bind fun v33=>
 cond (!v33)
 (some 2)
 ((Uh N m).bind fun v36=>
 cond (Q4 .neq v36 0)
 (some v36)
 ((Q06 N m).bind fun v39=>
 cond (Q4 .neq v39 0)
 (some v39)
 ((Jk N m).bind fun v42=>
 (V6 N m.Type' (v42.length:Int)).bind fun v44=>
 some v44.2)))))))
 ((Yp N (⟨2,m,[],false⟩:Qh)).bind fun v46=>
 cond v46.2.bad
 (some 2)
 (cond (!(((v46.2.m.Type':Int) == m.Type')&&(((v46.2.m.Flags.Dup:Bool) == m.Flags.Dup)&&(((v46.2.m.Flags.QoS:Int) == m.Flags.QoS)&&(((v46.2.m.Flags.Retain:Bool) == m.Flags.Retain)&&(((v46.2.m.Flags.Will:Bool) == m.Flags.Will)&&(((v46.2.m.Flags.Clean:Bool) == m.Flags.Clean)&&(((v46.2.m.Flags.Type':Int) == m.Flags.Type')&&(((v46.2.m.Gateway:Int) == 0)&&(((v46.2.m.Radius:Int) == 0)&&(((v46.2.m.Time:Int) == 0)&&(((v46.2.m.Timed:Bool) == false)&&(((v46.2.m.TopicID:Int) == 0)&&(((v46.2.m.MsgID:Int) == 0)&&(((v46.2.m.Code:Int) == 0)&&(((v46.2.m.Name:List UInt8) == [])&&(((v46.2.m.Data:List UInt8) == [])&&true)))))))))))))))))
 (some 2)
 ((Jr N m).bind fun v50=>
 cond (!v50)
 (some 2)
 ((Uh N m).bind fun v53=>
 cond (Q4 .neq v53 0)
 (some v53)
 ((Q06 N m).bind fun v56=>
 cond (Q4 .neq v56 0)
 (some v56)
 ((Jk N m).bind fun v59=>
 (V6 N m.Type' (v59.length:Int)).bind fun v61=>
 some v61.2))))))))
theorem Qc4 {N} {m} {r} (h:Q1o N m=some r):pU 195 [.agg (U2.cells m)] (.int .i64 r):=by
 refine Q2 Zam ?_;unfold Q1o at h;rw [cX,cY] at h;refine cP h Q9f p1 fun v1 h=>?_;refine iL h fun h=>?_;refine cP h Qet (.cons (.p _) (.cons (Ar (.cons (.p _) p5)) .nil)) fun v4 h=>?_;refine iL h fun h=>?_;refine cP h Qd2 p1 fun v7 h=>?_;apply iU h<;>intro h
 ·apply iU h<;>intro h
  ·refine iL h fun h=>?_;refine cG h Vo fun v12 h=>?_;refine ⟨rho [1,3],(.cells (Qfl m ([])) :: .cells (Q6t v12.2 2) :: .cells (Wo (cI .u8) v12.2.out) :: []),.tuple [],⟨(rE rfl <| rN),(hC rfl (rE rfl <| rE rfl <| rE rfl <| rE rfl <| rE rfl <| rE rfl <| rE rfl <| rE rfl <| rE rfl <| rE rfl <| rE rfl <| rE rfl <| rE rfl <| rE rfl <| rE rfl <| rE rfl <| rE rfl <| rE rfl <| rS <| rE rfl <| rN) <| hV lb <| hN),rfl,rfl,(roE rfl <| roE (Js _ _ _) <| roN),rfl,(fK rfl rfl <| fR 0 rfl rfl rfl rfl <| fO 2 rfl rfl rfl <| fN),rfl⟩,?_⟩;refine iL h fun h=>?_;refine iL h fun h=>?_;refine cP h Q2y (.cons (Ar (f8_ (f2_ (.cons (.p _) p5)))) .nil) fun v16 h=>?_;refine iL h fun h=>?_;refine cP h Q1n (.cons (Ar (f8_ (f2_ (.cons (.p _) p5)))) .nil) fun v19 h=>?_;refine iL h fun h=>?_;refine cP h Q3v (.cons (Ar (f8_ (f2_ (.cons (.p _) p5)))) .nil) fun v22 h=>?_;refine iL h fun h=>?_;refine Qp ?_;refine cD h Q1v (.cons (Ar (f8_ (f2_ (.cons (.p _) p5)))) .nil) fun v25 h=>?_;refine cD h Q0b p2 fun v27 h=>?_;cases h;exact (.p _)
  refine cG h Vo fun v29 h=>?_;refine ⟨rho [1,3],(.cells (Qfl m ([])) :: .cells (Q6t v29.2 2) :: .cells (Wo (cI .u8) v29.2.out) :: []),.tuple [],⟨(rE rfl <| rN),(hC rfl (rE rfl <| rE rfl <| rE rfl <| rE rfl <| rE rfl <| rE rfl <| rE rfl <| rE rfl <| rE rfl <| rE rfl <| rE rfl <| rE rfl <| rE rfl <| rE rfl <| rE rfl <| rE rfl <| rE rfl <| rE rfl <| rS <| rE rfl <| rN) <| hV lb <| hN),rfl,rfl,(roE rfl <| roE (Js _ _ _) <| roN),rfl,(fK rfl rfl <| fR 0 rfl rfl rfl rfl <| fO 2 rfl rfl rfl <| fN),rfl⟩,?_⟩;refine iL h fun h=>?_;refine iL h fun h=>?_;refine cP h Q2y (.cons (Ar (f8_ (f2_ (.cons (.p _) p5)))) .nil) fun v33 h=>?_;refine iL h fun h=>?_;refine cP h Q1n (.cons (Ar (f8_ (f2_ (.cons (.p _) p5)))) .nil) fun v36 h=>?_;refine iL h fun h=>?_;refine cP h Q3v (.cons (Ar (f8_ (f2_ (.cons (.p _) p5)))) .nil) fun v39 h=>?_;refine iL h fun h=>?_;refine Qp ?_;refine cD h Q1v (.cons (Ar (f8_ (f2_ (.cons (.p _) p5)))) .nil) fun v42 h=>?_;refine cD h Q0b p2 fun v44 h=>?_;cases h;exact (.p _)
 refine cG h Vo fun v46 h=>?_;refine ⟨rho [1,3],(.cells (Qfl m ([])) :: .cells (Q6t v46.2 2) :: .cells (Wo (cI .u8) v46.2.out) :: []),.tuple [],⟨(rE rfl <| rN),(hC rfl (rE rfl <| rE rfl <| rE rfl <| rE rfl <| rE rfl <| rE rfl <| rE rfl <| rE rfl <| rE rfl <| rE rfl <| rE rfl <| rE rfl <| rE rfl <| rE rfl <| rE rfl <| rE rfl <| rE rfl <| rE rfl <| rS <| rE rfl <| rN) <| hV lb <| hN),rfl,rfl,(roE rfl <| roE (Js _ _ _) <| roN),rfl,(fK rfl rfl <| fR 0 rfl rfl rfl rfl <| fO 2 rfl rfl rfl <| fN),rfl⟩,?_⟩;refine iL h fun h=>?_;refine iL h fun h=>?_;refine cP h Q2y (.cons (Ar (f8_ (f2_ (.cons (.p _) p5)))) .nil) fun v50 h=>?_;refine iL h fun h=>?_;refine cP h Q1n (.cons (Ar (f8_ (f2_ (.cons (.p _) p5)))) .nil) fun v53 h=>?_;refine iL h fun h=>?_;refine cP h Q3v (.cons (Ar (f8_ (f2_ (.cons (.p _) p5)))) .nil) fun v56 h=>?_;refine iL h fun h=>?_;refine Qp ?_;refine cD h Q1v (.cons (Ar (f8_ (f2_ (.cons (.p _) p5)))) .nil) fun v59 h=>?_;refine cD h Q0b p2 fun v61 h=>?_;cases h;exact (.p _)
def U4 (N:Nat) (m:U2):Option ((List UInt8)×Int):=
 (Q1o N m).bind fun v1=>
 cond (Q4 .neq v1 0)
 (some ([],v1))
 ((Jk N m).bind fun v4=>
 (V6 N m.Type' (v4.length:Int)).bind fun v6=>
 cond (Q4 .neq v6.2 0)
 (some ([],v6.2))
 (cond (Nat.ble (v6.1.length+v4.length) 4611686018427387904) (some ((v6.1++v4),0)) none))
theorem Q6r {N} {m} {r} (h:U4 N m=some r):pU 157 [.agg (U2.cells m)] (.tuple [.str r.1,.int .i64 r.2]):=by
 refine Q2 Ze5 ?_;unfold U4 at h;rw [cX] at h;refine cP h Qc4 (.cons (Ar (f8_ (f2_ (.cons (.p _) p5)))) .nil) fun v1 h=>?_;refine iL2 h fun h=>?_;refine cP h Q1v (.cons (Ar (f8_ (f2_ (.cons (.p _) p5)))) .nil) fun v4 h=>?_;refine cP h Q0b p2 fun v6 h=>?_;refine iL2 h fun h=>?_;refine kU h fun h=>?_;obtain rfl:=Qn h;exact u2
def Jd (N:Nat) (h_0:Vd):Option (List UInt8):=
 (Yl N (wrap .u64 (wrap .i64 (3+(h_0.Node.length:Int)))) 1).bind fun v1=>
 (Yl N 254 1).bind fun v3=>
 cond (Nat.ble (v1.length+v3.length) 4611686018427387904) ((Yl N (wrap .u64 h_0.Radius) 1).bind fun v6=>
 cond (Nat.ble ((v1++v3).length+v6.length) 4611686018427387904) (cond (Nat.ble (((v1++v3)++v6).length+h_0.Node.length) 4611686018427387904) (some (((v1++v3)++v6)++h_0.Node)) none) none) none
theorem Q3a {N} {h_0} {r} (h:Jd N h_0=some r):pU 158 [.agg (Vd.cells h_0)] (.str r):=by
 refine Q2 Z5z ?_;unfold Jd at h;refine Qp ?_;refine cD h Y7 p2 fun v1 h=>?_;refine cD h Y7 p2 fun v3 h=>?_;refine kU h fun h=>?_;refine cD h Y7 p2 fun v6 h=>?_;refine kU h fun h=>?_;refine kU h fun h=>?_;cases h;exact (.p _)
def W5 (N:Nat) (d:Qq) (l:Xm) (v26:(List UInt8)×Int):Nat→(List UInt8)→Int→Option ((List UInt8)×Int)
 | 0,_,_=>none
 | n+1,out43,s44=>
  cond (Q4 .lss s44 ((Q8 Vd.cells d.Hops).length:Int))
  ((idx d.Hops s44).bind fun y46=>
  (Jd N y46).bind fun v48=>
  cond (Nat.ble (out43.length+v48.length) 4611686018427387904) (W5 N d l v26 n (out43++v48) (wrap .i64 (s44+1))) none)
  (cond (Q4 .gtr (wrap .i64 ((out43.length:Int)+(v26.1.length:Int))) l.MaxPacket)
  (some ([],4))
  (cond (Nat.ble (out43.length+v26.1.length) 4611686018427387904) (some ((out43++v26.1),0)) none))
def Y9 (N:Nat) (d:Qq) (l:Xm) (v53:(List UInt8)×Int):Nat→(List UInt8)→Int→Option ((List UInt8)×Int)
 | 0,_,_=>none
 | n+1,out70,s71=>
  cond (Q4 .lss s71 ((Q8 Vd.cells d.Hops).length:Int))
  ((idx d.Hops s71).bind fun y73=>
  (Jd N y73).bind fun v75=>
  cond (Nat.ble (out70.length+v75.length) 4611686018427387904) (Y9 N d l v53 n (out70++v75) (wrap .i64 (s71+1))) none)
  (cond (Q4 .gtr (wrap .i64 ((out70.length:Int)+(v53.1.length:Int))) l.MaxPacket)
  (some ([],4))
  (cond (Nat.ble (out70.length+v53.1.length) 4611686018427387904) (some ((out70++v53.1),0)) none))
def X2 (N:Nat) (d:Qq) (l:Xm):Nat→Int→Option ((List UInt8)×Int)
 | 0,_=>none
 | n+1,s18=>
  cond (Q4 .lss s18 ((Q8 Vd.cells d.Hops).length:Int))
  ((idx d.Hops s18).bind fun y20=>
  (Jz N y20).bind fun v22=>
  cond v22
  (cond (Q4 .geq s18 0)
  (some ([],2))
  ((U4 N d.Msg).bind fun v26=>
  cond (Q4 .neq v26.2 0)
  (some ([],v26.2))
  (W5 N d l v26 N [] 0)))
  (X2 N d l n (wrap .i64 (s18+1))))
  ((U4 N d.Msg).bind fun v53=>
  cond (Q4 .neq v53.2 0)
  (some ([],v53.2))
  (Y9 N d l v53 N [] 0))
def Q0l (N:Nat) (d:Qq) (l:Xm):Option ((List UInt8)×Int):=
 (Q0p N l).bind fun v1=>
 cond (!v1)
 (some ([],2))
 (cond (Q4 .gtr ((Q8 Vd.cells d.Hops).length:Int) 4)
 (some ([],12))
 (X2 N d l N 0))
theorem Qb5 {N} {d} {l} {r} (h:Q0l N d l=some r):pU 118 [.agg (Qq.cells d),.agg (Xm.cells l)] (.tuple [.str r.1,.int .i64 r.2]):=by
 refine Q2 Z53 ?_;unfold Q0l at h;rw [cX] at h;refine cP h Qao (.cons q2 .nil) fun v1 h=>?_;refine iL2 h fun h=>?_;refine iL2 h fun h=>?_;refine Qa Zev ?_;refine Qa Z81 ?_;refine lpH (τ:=Int) (fun s18=>(.p (.slice 2 (Q8 Vd.cells d.Hops)) :: .p (.func (.func 155) [] [])::a4 (.any::iI ((Q8 Vd.cells d.Hops).length:Int)::iI s18::a8 (a2 ([]))):List AV)) (fun n0 s18=>X2 N d l n0 s18) (0) h fun n0 s18 h=>?_
 first | rw [X2] at h | simp only [X2] at h
 rw [cX] at h;apply iU h<;>intro h
 ·refine xR h fun y20 h=>?_;refine cP h Q9c (.cons q2 .nil) fun v22 h=>?_;apply iU h<;>intro h
  ·refine iL2 h fun h=>?_;refine cP h Q6r (.cons (Ar (f8_ (f2_ (.cons (.p _) p5)))) .nil) fun v26 h=>?_;refine iL2 h fun h=>?_;refine lpH (τ:=(List UInt8)×Int) (fun ⟨out43,s44⟩=>(a2 (.any :: .ptr 1 0 :: .any :: .any::iS v26.1 :: .any::iS out43::a16 (a4 (a2 (.p (.slice 2 (Q8 Vd.cells d.Hops))::iI ((Q8 Vd.cells d.Hops).length:Int)::iI s44::a16 (a2 (.any :: [])))))):List AV)) (fun n1 ⟨out43,s44⟩=>W5 N d l v26 n1 out43 s44) ([],0) h fun n1 ⟨out43,s44⟩ h=>?_
   first | rw [W5] at h | simp only [W5] at h
   rw [cX] at h;apply iU h<;>intro h
   ·refine xR h fun y46 h=>?_;refine cP h Q3a (.cons q2 .nil) fun v48 h=>?_;refine kU h fun h=>?_;show Exists _;exact ⟨(n1,(out43++v48),(wrap .i64 (s44+1))),h,Lf _,(fun i=>i),Ya⟩
   refine iL2 h fun h=>?_;refine kU h fun h=>?_;obtain rfl:=Qn h;exact u2
  show Exists _;exact ⟨(n0,(wrap .i64 (s18+1))),h,Lf _,(fun i=>i),Ya⟩
 refine dF ?_;refine cP h Q6r (.cons (Ar (f8_ (f2_ (.cons (.p _) p5)))) .nil) fun v53 h=>?_;refine iL2 h fun h=>?_;refine lpH (τ:=(List UInt8)×Int) (fun ⟨out70,s71⟩=>(a2 (.any :: .ptr 1 0 :: .any :: .any::iS v53.1 :: .any::iS out70::a16 (a4 (a2 (.p (.slice 2 (Q8 Vd.cells d.Hops))::iI ((Q8 Vd.cells d.Hops).length:Int)::iI s71::a16 (a2 (.any :: [])))))):List AV)) (fun n2 ⟨out70,s71⟩=>Y9 N d l v53 n2 out70 s71) ([],0) h fun n2 ⟨out70,s71⟩ h=>?_
 first | rw [Y9] at h | simp only [Y9] at h
 rw [cX] at h;apply iU h<;>intro h
 ·refine xR h fun y73 h=>?_;refine cP h Q3a (.cons q2 .nil) fun v75 h=>?_;refine kU h fun h=>?_;show Exists _;exact ⟨(n2,(out70++v75),(wrap .i64 (s71+1))),h,Lf _,(fun i=>i),Ya⟩
 refine iL2 h fun h=>?_;refine kU h fun h=>?_;obtain rfl:=Qn h;exact u2
def Yo (N:Nat) (d:Qq) (l:Xm):Option Int:=
 (Q0l N d l).bind fun v1=>
 some v1.2
theorem U9 {N} {d} {l} {r} (h:Yo N d l=some r):pU 95 [.agg (Qq.cells d),.agg (Xm.cells l)] (.int .i64 r):=by
 refine Q2 k95 ?_;unfold Yo at h;refine cP h Qb5 (.cons (Ar (f8_ (f2_ (f1_ (.cons (.p _) p5))))) (.cons q2 .nil)) fun v1 h=>?_;cases h;exact (.p _)
def Q0t (_N:Nat):Option (Xm):=
 some (⟨1048576,32⟩:Xm)
theorem Q42 {N} {r} (h:Q0t N=some r):pU 98 [] (.agg (Xm.cells r)):=by
 refine Q2 k98 ?_;unfold Q0t at h;obtain rfl:=Qn h;exact q2
def U7 (_N:Nat) (n_0:Int) (low:Int) (high:Int):Option Bool:=
 cond (Q4 .geq n_0 low)
 (some (Q4 .leq n_0 high))
 (some false)
theorem Q0c {N} {n_0} {low} {high} {r} (h:U7 N n_0 low high=some r):pU 60 [.int .i64 n_0,.int .i64 low,.int .i64 high] (.bool r):=by
 refine Q2 k60 ?_;unfold U7 at h;rw [cX] at h;exact iB h
def Jp (N:Nat) (e:Qf):Option Bool:=
 (U7 N e.Type' 0 2).bind fun v1=>
 cond (!v1)
 (some false)
 ((Q19 N e.Topic).bind fun v4=>
 cond (Q4 .eql e.Type' 2)
 (cond (!v4.2)
 (some false)
 ((Q0t N).bind fun v8=>
 (Yo N (⟨e.Hops,(⟨23,(⟨false,0,false,false,false,0⟩:Qz),0,0,0,false,0,0,0,[],[]⟩:U2)⟩:Qq) v8).bind fun v10=>
 some (Q4 .eql v10 0)))
 ((Q0t N).bind fun v12=>
 (Yo N (⟨e.Hops,(⟨23,(⟨false,0,false,false,false,0⟩:Qz),0,0,0,false,0,0,0,[],[]⟩:U2)⟩:Qq) v12).bind fun v14=>
 some (Q4 .eql v14 0)))
theorem Qc3 {N} {e} {r} (h:Jp N e=some r):pU 65 [.agg (Qf.cells e)] (.bool r):=by
 refine Q2 k65 ?_;unfold Jp at h;rw [cX] at h;refine cP h Q0c p3 fun v1 h=>?_;refine iL h fun h=>?_;refine cP h Q6p p1 fun v4 h=>?_;apply iU h<;>intro h
 ·refine iL h fun h=>?_;refine Qp ?_;refine cD h Q42 p0 fun v8 h=>?_;refine cD h U9 (.cons (Ar (f8_ (f2_ (f1_ (.cons (.p _) p5))))) p1) fun v10 h=>?_;cases h;exact (.p _)
 refine Qp ?_;refine cD h Q42 p0 fun v12 h=>?_;refine cD h U9 (.cons (Ar (f8_ (f2_ (f1_ (.cons (.p _) p5))))) p1) fun v14 h=>?_;cases h;exact (.p _)
def Jo (N:Nat) (e:Qf):Option Bool:=
 (Q3p N e.Packet (⟨0,false,false,0,0,[],[],false,0,[],false,[],false,[],false,(⟨[],[],0,false,[]⟩:J2),false,0,[],[],[]⟩:Qu)).bind fun v1=>
 cond v1
 (cond (((e.Msg.Type':Int) == 0)&&(((e.Msg.Flags.Dup:Bool) == false)&&(((e.Msg.Flags.QoS:Int) == 0)&&(((e.Msg.Flags.Retain:Bool) == false)&&(((e.Msg.Flags.Will:Bool) == false)&&(((e.Msg.Flags.Clean:Bool) == false)&&(((e.Msg.Flags.Type':Int) == 0)&&(((e.Msg.Gateway:Int) == 0)&&(((e.Msg.Radius:Int) == 0)&&(((e.Msg.Time:Int) == 0)&&(((e.Msg.Timed:Bool) == false)&&(((e.Msg.TopicID:Int) == 0)&&(((e.Msg.MsgID:Int) == 0)&&(((e.Msg.Code:Int) == 0)&&(((e.Msg.Name:List UInt8) == [])&&(((e.Msg.Data:List UInt8) == [])&&true))))))))))))))))
 ((Q00 N e.Frame (⟨0,0,[],[]⟩:Zn)).bind fun v5=>
 some v5)
 (some false))
 (some false)
theorem Qex {N} {e} {r} (h:Jo N e=some r):pU 69 [.agg (Qf.cells e)] (.bool r):=by
 refine Q2 k69 ?_;unfold Jo at h;refine cP h Qf8 (.cons (Ar (Xd (f2_ (f1_ (.cons (.p _) p5))))) (.cons (Ar (Xd (f2_ (f1_ (.cons (.nil _) (f2_ (.cons (.nil _) (.cons (.nil _) (.cons (.nil _) .nil))))))))) .nil)) fun v1 h=>?_;refine iR h fun h=>?_;refine Qnh (ks := [0,2,0,2,2,2,0,0,0,0,2,0,0,0,1,1]) (xs := [iI e.Msg.Type',.p (.bool e.Msg.Flags.Dup),iI e.Msg.Flags.QoS,.p (.bool e.Msg.Flags.Retain),.p (.bool e.Msg.Flags.Will),.p (.bool e.Msg.Flags.Clean),iI e.Msg.Flags.Type',iI e.Msg.Gateway,iI e.Msg.Radius,iI e.Msg.Time,.p (.bool e.Msg.Timed),iI e.Msg.TopicID,iI e.Msg.MsgID,iI e.Msg.Code,iS e.Msg.Name,iS e.Msg.Data]) (ys := [iI 0,.p (.bool false),iI 0,.p (.bool false),.p (.bool false),.p (.bool false),iI 0,iI 0,iI 0,iI 0,.p (.bool false),iI 0,iI 0,iI 0,iS [],iS []]) (b:=(((e.Msg.Type':Int) == 0)&&(((e.Msg.Flags.Dup:Bool) == false)&&(((e.Msg.Flags.QoS:Int) == 0)&&(((e.Msg.Flags.Retain:Bool) == false)&&(((e.Msg.Flags.Will:Bool) == false)&&(((e.Msg.Flags.Clean:Bool) == false)&&(((e.Msg.Flags.Type':Int) == 0)&&(((e.Msg.Gateway:Int) == 0)&&(((e.Msg.Radius:Int) == 0)&&(((e.Msg.Time:Int) == 0)&&(((e.Msg.Timed:Bool) == false)&&(((e.Msg.TopicID:Int) == 0)&&(((e.Msg.MsgID:Int) == 0)&&(((e.Msg.Code:Int) == 0)&&(((e.Msg.Name:List UInt8) == [])&&(((e.Msg.Data:List UInt8) == [])&&true))))))))))))))))) rfl ?_;refine iR h fun h=>?_;refine cP h Q9m (.cons q4 (.cons q4n .nil)) fun v5 h=>?_;cases h;exact (.p _)
def Gg:List (Int×Jl) := [(1,(⟨[109,113,116,116,51]⟩:Jl)),(2,(⟨[109,113,116,116,53]⟩:Jl)),(3,(⟨[115,110]⟩:Jl)),(4,(⟨[97,109,113,112]⟩:Jl))]
theorem Qb7:pU 96 [] (.pmap (Z0y (fun v => .agg (Jl.cells v)) Gg)):=Q4i Qjr (N:=2000) (d:=60) (by kernel_rfl)
def Q1d (_N:Nat) (proto:Int):Option Bool:=
 optC (Q3o Gg proto) (fun m1=>
 some true)
 (some false)
theorem Qbz {N} {proto} {r} (h:Q1d N proto=some r):pU 57 [.int .i64 proto] (.bool r):=by
 refine Q2 k57 ?_;unfold Q1d at h;refine Wl Qb7 .nil ?_;refine Qv5 h (fun m1 hm2 h=>?_) (fun hm2 h=>?_)
 ·cases h;exact (.p _)
 cases h;exact (.p _)
def Vm (N:Nat) (e:Qf):Option Int:=
 (Jo N e).bind fun v71=>
 cond (!v71)
 (some 2)
 ((W6 N 3 e.Props).bind fun v77=>
 cond (Q4 .neq v77 0)
 (some 9)
 (some 0))
def Vn (N:Nat) (e:Qf):Option Int:=
 (U7 N e.Channel 0 65535).bind fun v61=>
 cond (!v61)
 (some 2)
 (cond (Q4 .neq e.Channel 0)
 (cond (Q4 .neq e.Proto 4)
 (some 2)
 (Vm N e))
 (Vm N e))
def Vq (N:Nat) (e:Qf):Option Int:=
 cond (Q4 .eql e.Proto 3)
 ((Jp N e).bind fun v53=>
 cond (!v53)
 (some 2)
 (Vn N e))
 (cond (Q4 .neq e.Type' 0)
 (some 2)
 (cond (Q4 .gtr ((Q8 Vd.cells e.Hops).length:Int) 0)
 (some 2)
 (Vn N e)))
def Wm (N:Nat) (e:Qf):Option Int:=
 cond (Q4 .gtr ((Q8 Qk.cells e.Props).length:Int) 0)
 (cond (Q4 .neq e.Proto 2)
 (some 2)
 (Vq N e))
 (Vq N e)
def Vr (N:Nat) (e:Qf) (c2:Bool):Option Int:=
 (U7 N e.ID 0 65535).bind fun v32=>
 cond (!v32)
 (some 2)
 (cond (!(c2 == (Q4 .neq e.ID 0)))
 (some 2)
 (cond e.Dup
 (cond (!c2)
 (cond (!(Q4 .eql e.Proto 3))
 (some 2)
 (Wm N e))
 (Wm N e))
 (Wm N e)))
def Wj (N:Nat) (e:Qf) (c2:Bool):Option Int:=
 (Q1d N e.Proto).bind fun v8=>
 cond (!v8)
 (some 2)
 (cond (Q4 .neq e.Kind 1)
 (some 2)
 ((X4 N e.Topic).bind fun v15=>
 cond (!v15)
 (some 10)
 ((U7 N e.QoS 0 2).bind fun v23=>
 cond (!v23)
 (cond (Q4 .eql e.Proto 3)
 (cond (!(Q4 .eql e.QoS (-1)))
 (some 2)
 (Vr N e c2))
 (some 2))
 (Vr N e c2))))
def Yj (N:Nat) (e:Qf):Option Int:=
 cond (Q4 .eql e.QoS 1)
 (Wj N e true)
 (Wj N e (Q4 .eql e.QoS 2))
theorem Ux {N} {e} {r} (h:Yj N e=some r):pU 31 [.agg (Qf.cells e)] (.int .i64 r):=by
 refine Q2 k31 ?_;unfold Yj at h;rw [cX] at h;refine jrA (r:=r) (σ:=Bool) (fun _=>(.any :: .ptr 0 0 :: .any :: .ptr 1 0 :: .ptr 2 0::a16 (a16 (a16 (.any :: []))):List AV)) (fun c2=>(.cells (Q1t e ([])) :: .cells (.p (.bool (Qi3 .eql e.Proto 3)) :: []) :: .cells (.p (.bool c2) :: []) :: []:List AObj)) (fun c2=>Wj N e c2) ?_ ?_
 ·apply iU h<;>intro h
  ·show Exists _;exact ⟨(true),h,(fun i=>i),Ya⟩
  show Exists _;exact ⟨((Qi3 .eql e.QoS 2)),h,(fun i=>i),Ya⟩
 rintro c2 h
 unfold Wj at h;rw [cX] at h;refine rdI 13 ?_;refine rdP ?_;refine dT ?_;refine Qa k56 ?_;refine cP h Qbz p1 fun v8 h=>?_;refine iL h fun h=>?_;refine iL h fun h=>?_;refine rdP ?_;refine dT ?_;refine Qa k58 ?_;refine cP h Xy p1 fun v15 h=>?_;refine iL h fun h=>?_;refine rdJ (r:=r) (x:=Vr N e c2) (a16 (a16 (a8 (a2 (.slice 2 3 0 11::iI 11::iI 3::a8 (.any :: [])))))) ?_ ?_
 ·refine dT ?_;refine Qa k59 ?_;refine cP h Q0c p3 fun v23 h=>?_;apply iU h<;>intro h
  ·refine iR h fun h=>?_;refine iL h fun h=>?_;show Exists _;exact ⟨(),h,(fun i=>i),Ya⟩
  show Exists _;exact ⟨(),h,(fun i=>i),Ya⟩
 intro h;unfold Vr at h;rw [cX] at h;refine rdP ?_;refine dT ?_;refine Qa k61 ?_;refine cP h Q0c p3 fun v32 h=>?_;refine iL h fun h=>?_;refine iL h fun h=>?_;refine rdJ (r:=r) (x:=Wm N e) (a16 (a16 (a8 (a2 (.slice 2 3 0 11::iI 11::iI 5::a8 (.any :: [])))))) ?_ ?_
 ·refine dT ?_;refine Qa k62 ?_;apply iU h<;>intro h
  ·apply iU h<;>intro h
   ·refine iL h fun h=>?_;show Exists _;exact ⟨(),h,(fun i=>i),Ya⟩
   show Exists _;exact ⟨(),h,(fun i=>i),Ya⟩
  show Exists _;exact ⟨(),h,(fun i=>i),Ya⟩
 intro h;unfold Wm at h;rw [cX] at h;refine rdJ (r:=r) (x:=Vq N e) (a16 (a16 (a8 (a2 (.slice 2 3 0 11::iI 11::iI 6::a8 (.any :: [])))))) ?_ ?_
 ·refine dT ?_;refine Qa k63 ?_;apply iU h<;>intro h
  ·refine iL h fun h=>?_;show Exists _;exact ⟨(),h,(fun i=>i),Ya⟩
  show Exists _;exact ⟨(),h,(fun i=>i),Ya⟩
 intro h;unfold Vq at h;rw [cX] at h;refine rdJ (r:=r) (x:=Vn N e) (a16 (a16 (a8 (a2 (.slice 2 3 0 11::iI 11::iI 7::a8 (.any :: [])))))) ?_ ?_
 ·refine dT ?_;refine Qa k64 ?_;refine ifO h (fun hc52 h=>?_) (fun hc52 h=>?_)
  ·refine cP h Qc3 (.cons (Ar (Xd (Xd (Xd (f2_ (f1_ (.cons (.p _) p5))))))) .nil) fun v53 h=>?_;refine iL h fun h=>?_;refine ifF (Z0v hc52) ?_;show Exists _;exact ⟨(),h,(fun i=>i),Ya⟩
  refine ifT (Qza hc52) ?_;refine iL h fun h=>?_;refine iL h fun h=>?_;show Exists _;exact ⟨(),h,(fun i=>i),Ya⟩
 intro h;unfold Vn at h;rw [cX] at h;refine rdP ?_;refine dT ?_;refine Qa k66 ?_;refine cP h Q0c p3 fun v61 h=>?_;refine iL h fun h=>?_;refine rdJ (r:=r) (x:=Vm N e) (a16 (a16 (a8 (a2 (.slice 2 3 0 11::iI 11::iI 9::a8 (.any :: [])))))) ?_ ?_
 ·refine dT ?_;refine Qa k67 ?_;apply iU h<;>intro h
  ·refine iL h fun h=>?_;show Exists _;exact ⟨(),h,(fun i=>i),Ya⟩
  show Exists _;exact ⟨(),h,(fun i=>i),Ya⟩
 intro h;unfold Vm at h;rw [cX] at h;refine rdP ?_;refine dT ?_;refine Qa k68 ?_;refine cP h Qex (.cons (Ar (Xd (Xd (Xd (f2_ (f1_ (.cons (.p _) p5))))))) .nil) fun v71 h=>?_;refine iL h fun h=>?_;refine rdP ?_;refine dT ?_;refine Qa k70 ?_;refine cP h Qdx p2 fun v77 h=>?_;refine iL h fun h=>?_;refine rdP ?_;refine dF ?_;cases h;exact (.p _)
def Q1e (N:Nat) (e:Qf) (l:Xm):Option Int:=
 (Q3c N l).bind fun v1=>
 cond (!v1)
 (some 2)
 (cond (Q4 .eql e.Kind 1)
 ((Yj N e).bind fun v5=>
 cond (Q4 .neq v5 0)
 (some v5)
 (cond (Q4 .gtr (e.Payload.length:Int) l.MaxPacket)
 (some 4)
 (some 0)))
 (cond (Q4 .eql e.Kind 2)
 (none)
 (some 2)))
theorem Qc0 {N} {e} {l} {r} (h:Q1e N e l=some r):pU 92 [.agg (Qf.cells e),.agg (Xm.cells l)] (.int .i64 r):=by
 refine Q2 k92 ?_;unfold Q1e at h;rw [cX] at h;refine cP h Qc6 (.cons q2 .nil) fun v1 h=>?_;refine iL h fun h=>?_;apply iU h<;>intro h
 ·refine cP h Ux (.cons (Ar (Xd (Xd (Xd (f2_ (f1_ (.cons (.p _) p5))))))) .nil) fun v5 h=>?_;refine iL h fun h=>?_;exact iB h
 refine iR h fun h=>?_
 first | (cases h;done) | (simp [Ut] at h;done)
def Wc (_N:Nat):Option (Xm):=
 some (⟨1048576,32⟩:Xm)
theorem U1 {N} {r} (h:Wc N=some r):pU 93 [] (.agg (Xm.cells r)):=by
 refine Q2 k93 ?_;unfold Wc at h;obtain rfl:=Qn h;exact q2
def Wf (N:Nat) (R0:Reg) (client:List UInt8) (e:Qf):Option ((Qq×Int)×Reg):=
 cond (Q4 .neq e.Proto 3)
 (some (((⟨[],(⟨0,(⟨false,0,false,false,false,0⟩:Qz),0,0,0,false,0,0,0,[],[]⟩:U2)⟩:Qq),2),R0))
 ((Wc N).bind fun v2=>
 (Q1e N e v2).bind fun v4=>
 cond (Q4 .neq v4 0)
 (some (((⟨[],(⟨0,(⟨false,0,false,false,false,0⟩:Qz),0,0,0,false,0,0,0,[],[]⟩:U2)⟩:Qq),v4),R0))
 ((Q13 N e.Hops).bind fun v7=>
 cond (Q4 .eql e.Kind 1)
 (cond (Q4 .eql e.Type' 2)
 ((Q0f N (⟨⟩:Q1r) e.Topic).bind fun v30=>
 cond (!v30.2)
 (some (((⟨[],(⟨0,(⟨false,0,false,false,false,0⟩:Qz),0,0,0,false,0,0,0,[],[]⟩:U2)⟩:Qq),11),R0))
 ((Wc N).bind fun v33=>
 (Yo N (⟨v7,(⟨12,(⟨e.Dup,e.QoS,e.Retain,false,false,e.Type'⟩:Qz),0,0,0,false,v30.1,e.ID,0,[],e.Payload⟩:U2)⟩:Qq) v33).bind fun v35=>
 cond (Q4 .neq v35 0)
 (some (((⟨[],(⟨0,(⟨false,0,false,false,false,0⟩:Qz),0,0,0,false,0,0,0,[],[]⟩:U2)⟩:Qq),v35),R0))
 (some (((⟨v7,(⟨12,(⟨e.Dup,e.QoS,e.Retain,false,false,e.Type'⟩:Qz),0,0,0,false,v30.1,e.ID,0,[],e.Payload⟩:U2)⟩:Qq),0),R0))))
 (cond (Q4 .eql e.Type' 1)
 ((Qcl N R0 client e.Topic).bind fun v38=>
 cond (Q4 .neq v38.1.2 0)
 (some (((⟨[],(⟨0,(⟨false,0,false,false,false,0⟩:Qz),0,0,0,false,0,0,0,[],[]⟩:U2)⟩:Qq),11),v38.2))
 ((Q6j N v38.2 client v38.1.1).bind fun v41=>
 cond (!(v41.1 == true))
 (some (((⟨[],(⟨0,(⟨false,0,false,false,false,0⟩:Qz),0,0,0,false,0,0,0,[],[]⟩:U2)⟩:Qq),11),v41.2))
 ((Wc N).bind fun v44=>
 (Yo N (⟨v7,(⟨12,(⟨e.Dup,e.QoS,e.Retain,false,false,e.Type'⟩:Qz),0,0,0,false,v38.1.1,e.ID,0,[],e.Payload⟩:U2)⟩:Qq) v44).bind fun v46=>
 cond (Q4 .neq v46 0)
 (some (((⟨[],(⟨0,(⟨false,0,false,false,false,0⟩:Qz),0,0,0,false,0,0,0,[],[]⟩:U2)⟩:Qq),v46),v41.2))
 (some (((⟨v7,(⟨12,(⟨e.Dup,e.QoS,e.Retain,false,false,e.Type'⟩:Qz),0,0,0,false,v38.1.1,e.ID,0,[],e.Payload⟩:U2)⟩:Qq),0),v41.2)))))
 ((Qcl N R0 client e.Topic).bind fun v49=>
 cond (Q4 .neq v49.1.2 0)
 (some (((⟨[],(⟨0,(⟨false,0,false,false,false,0⟩:Qz),0,0,0,false,0,0,0,[],[]⟩:U2)⟩:Qq),11),v49.2))
 ((Q6j N v49.2 client v49.1.1).bind fun v52=>
 cond (!(v52.1 == false))
 (some (((⟨[],(⟨0,(⟨false,0,false,false,false,0⟩:Qz),0,0,0,false,0,0,0,[],[]⟩:U2)⟩:Qq),11),v52.2))
 ((Wc N).bind fun v55=>
 (Yo N (⟨v7,(⟨12,(⟨e.Dup,e.QoS,e.Retain,false,false,e.Type'⟩:Qz),0,0,0,false,v49.1.1,e.ID,0,[],e.Payload⟩:U2)⟩:Qq) v55).bind fun v57=>
 cond (Q4 .neq v57 0)
 (some (((⟨[],(⟨0,(⟨false,0,false,false,false,0⟩:Qz),0,0,0,false,0,0,0,[],[]⟩:U2)⟩:Qq),v57),v52.2))
 (some (((⟨v7,(⟨12,(⟨e.Dup,e.QoS,e.Retain,false,false,e.Type'⟩:Qz),0,0,0,false,v49.1.1,e.ID,0,[],e.Payload⟩:U2)⟩:Qq),0),v52.2)))))))
 ((Wc N).bind fun v60=>
 (Yo N (⟨v7,e.Msg⟩:Qq) v60).bind fun v62=>
 cond (Q4 .neq v62 0)
 (some (((⟨[],(⟨0,(⟨false,0,false,false,false,0⟩:Qz),0,0,0,false,0,0,0,[],[]⟩:U2)⟩:Qq),v62),R0))
 (some (((⟨v7,e.Msg⟩:Qq),0),R0)))))
theorem Q31 {N} {R0} {client} {e} {r} (h:Wf N R0 client e=some r):Q4p Tryz.prog G1 55 R0 [.str client,.agg (Qf.cells e)] (.tuple [.agg (Qq.cells r.1.1),.int .i64 r.1.2]) r.2:=by
 refine Qfp k55 ?_;unfold Wf at h;rw [cX] at h;apply iU h<;>intro h
 ·obtain rfl:=Qn h;exact ⟨1,rfl,(Au (.cons (Ar (.cons (.nil _) (f8_ (f2_ (.cons (.p _) p5))))) p1))⟩
 refine Qp ?_;refine cD h U1 p0 fun v2 h=>?_;refine cD h Qc0 (.cons (Ar (Xd (Xd (Xd (f2_ (f1_ (.cons (.p _) p5))))))) p1) fun v4 h=>?_;apply iU h<;>intro h
 ·obtain rfl:=Qn h;exact ⟨1,rfl,(Au (.cons (Ar (.cons (.nil _) (f8_ (f2_ (.cons (.p _) p5))))) p1))⟩
 refine Qp ?_;refine dcO h Q7r [4] (fun v7 => .slice 2 4 0 v7.length) (rE rfl <| rN) fun v7 h=>?_;apply iU h<;>intro h
 ·refine Qn6 7 0 rfl rfl rfl rfl rfl ?_;refine Qzm h (fun hc28 h=>?_) (fun hc28 h=>?_)
  ·refine Q98 (r := .iface 190 (.agg [])) rfl rfl (Qa k94 (ifT hc28 rfl)) ?_;refine cP h Q8i (.cons (Ar .nil) p1) fun v30 h=>?_;apply iU h<;>intro h
   ·obtain rfl:=Qn h;exact ⟨1,rfl,(Au (.cons (Ar (.cons (.nil _) (f8_ (f2_ (.cons (.p _) p5))))) p1))⟩
   refine Qp ?_;refine cD h U1 p0 fun v33 h=>?_;refine dL h U9 [4] (.cons (Ar (.cons (frz_own (c:=Vd.cells) (l:=(v7:List Vd)) (fun _=>rfl) rfl (by simp) sd) (f8_ (f2_ (.cons (.p _) p5))))) p1) fun v35 h=>?_;apply iU h<;>intro h
   ·obtain rfl:=Qn h;exact ⟨1,rfl,(Au (.cons (Ar (.cons (.nil _) (f8_ (f2_ (.cons (.p _) p5))))) p1))⟩
   obtain rfl:=Qn h;exact ⟨1,rfl,(Au (.cons (Ar (.cons (frz_own (c:=Vd.cells) (l:=(v7:List Vd)) (fun _=>rfl) rfl (by decide) sd) (f8_ (f2_ (.cons (.p _) p5))))) p1))⟩
  refine Qzm h (fun hc29 h=>?_) (fun hc29 h=>?_)
  ·refine Q98 (r := .iface 192 (.agg [.ptr 0 0,iS client])) rfl rfl (Qa k94 (ifF hc28 (ifT hc29 rfl))) ?_;refine Qa Zbz ?_;refine Qa Z2b ?_;refine cRg h Q8w (b:=1) rfl p2 fun v38 h=>?_;apply iU h<;>intro h
   ·obtain rfl:=Qn h;exact ⟨8,rfl,(Au (.cons (Ar (.cons (.nil _) (f8_ (f2_ (.cons (.p _) p5))))) p1))⟩
   refine cRg h Q4x (b:=8) rfl p2 fun v41 h=>?_;apply iU h<;>intro h
   ·obtain rfl:=Qn h;exact ⟨9,rfl,(Au (.cons (Ar (.cons (.nil _) (f8_ (f2_ (.cons (.p _) p5))))) p1))⟩
   refine Qp ?_;refine cD h U1 p0 fun v44 h=>?_;refine dL h U9 [4] (.cons (Ar (.cons (frz_own (c:=Vd.cells) (l:=(v7:List Vd)) (fun _=>rfl) rfl (by simp) sd) (f8_ (f2_ (.cons (.p _) p5))))) p1) fun v46 h=>?_;apply iU h<;>intro h
   ·obtain rfl:=Qn h;exact ⟨9,rfl,(Au (.cons (Ar (.cons (.nil _) (f8_ (f2_ (.cons (.p _) p5))))) p1))⟩
   obtain rfl:=Qn h;exact ⟨9,rfl,(Au (.cons (Ar (.cons (frz_own (c:=Vd.cells) (l:=(v7:List Vd)) (fun _=>rfl) rfl (by decide) sd) (f8_ (f2_ (.cons (.p _) p5))))) p1))⟩
  refine Q98 (r := .iface 193 (.agg [.ptr 0 0,iS client])) rfl rfl (Qa k94 (ifF hc28 (ifF hc29 rfl))) ?_;refine Qa Zf9 ?_;refine Qa Z2b ?_;refine cRg h Q8w (b:=1) rfl p2 fun v49 h=>?_;apply iU h<;>intro h
  ·obtain rfl:=Qn h;exact ⟨8,rfl,(Au (.cons (Ar (.cons (.nil _) (f8_ (f2_ (.cons (.p _) p5))))) p1))⟩
  refine cRg h Q4x (b:=8) rfl p2 fun v52 h=>?_;apply iU h<;>intro h
  ·obtain rfl:=Qn h;exact ⟨9,rfl,(Au (.cons (Ar (.cons (.nil _) (f8_ (f2_ (.cons (.p _) p5))))) p1))⟩
  refine Qp ?_;refine cD h U1 p0 fun v55 h=>?_;refine dL h U9 [4] (.cons (Ar (.cons (frz_own (c:=Vd.cells) (l:=(v7:List Vd)) (fun _=>rfl) rfl (by simp) sd) (f8_ (f2_ (.cons (.p _) p5))))) p1) fun v57 h=>?_;apply iU h<;>intro h
  ·obtain rfl:=Qn h;exact ⟨9,rfl,(Au (.cons (Ar (.cons (.nil _) (f8_ (f2_ (.cons (.p _) p5))))) p1))⟩
  obtain rfl:=Qn h;exact ⟨9,rfl,(Au (.cons (Ar (.cons (frz_own (c:=Vd.cells) (l:=(v7:List Vd)) (fun _=>rfl) rfl (by decide) sd) (f8_ (f2_ (.cons (.p _) p5))))) p1))⟩
 refine Qp ?_;refine cD h U1 p0 fun v60 h=>?_;refine dL h U9 [4] (.cons (Ar (.cons (frz_own (c:=Vd.cells) (l:=(v7:List Vd)) (fun _=>rfl) rfl (by simp) sd) (f8_ (f2_ (.cons (.p _) p5))))) p1) fun v62 h=>?_;apply iU h<;>intro h
 ·obtain rfl:=Qn h;exact ⟨1,rfl,(Au (.cons (Ar (.cons (.nil _) (f8_ (f2_ (.cons (.p _) p5))))) p1))⟩
 obtain rfl:=Qn h;exact ⟨1,rfl,(Au (.cons (Ar (.cons (frz_own (c:=Vd.cells) (l:=(v7:List Vd)) (fun _=>rfl) rfl (by decide) sd) (f8_ (f2_ (.cons (.p _) p5))))) p1))⟩
def Q0e (N:Nat) (R0:Reg) (client:List UInt8) (e:Qf) (proto:Int):Option ((Qf×Int)×Reg):=
 cond ((proto:Int) == 1)
 ((Yj N e).bind fun v2=>
 cond (Q4 .neq v2 0)
 (some (((⟨0,0,[],[],0,false,false,0,[],0,[],0,(⟨0,false,false,0,0,[],[],false,0,[],false,[],false,[],false,(⟨[],[],0,false,[]⟩:J2),false,0,[],[],[]⟩:Qu),(⟨0,(⟨false,0,false,false,false,0⟩:Qz),0,0,0,false,0,0,0,[],[]⟩:U2),(⟨0,0,[],[]⟩:Zn)⟩:Qf),v2),R0))
 (cond (Q4 .eql proto e.Proto)
 ((Vh N e).bind fun v6=>
 some ((v6,0),R0))
 (cond (Q4 .gtr ((Q8 Qk.cells e.Props).length:Int) 0)
 (some (((⟨0,0,[],[],0,false,false,0,[],0,[],0,(⟨0,false,false,0,0,[],[],false,0,[],false,[],false,[],false,(⟨[],[],0,false,[]⟩:J2),false,0,[],[],[]⟩:Qu),(⟨0,(⟨false,0,false,false,false,0⟩:Qz),0,0,0,false,0,0,0,[],[]⟩:U2),(⟨0,0,[],[]⟩:Zn)⟩:Qf),15),R0))
 (cond (Q4 .lss e.QoS 0)
 (some (((⟨0,0,[],[],0,false,false,0,[],0,[],0,(⟨0,false,false,0,0,[],[],false,0,[],false,[],false,[],false,(⟨[],[],0,false,[]⟩:J2),false,0,[],[],[]⟩:Qu),(⟨0,(⟨false,0,false,false,false,0⟩:Qz),0,0,0,false,0,0,0,[],[]⟩:U2),(⟨0,0,[],[]⟩:Zn)⟩:Qf),15),R0))
 (cond e.Dup
 (some (((⟨proto,1,e.Topic,e.Payload,e.QoS,e.Retain,(Q4 .gtr e.QoS 0),e.ID,[],0,[],0,(⟨0,false,false,0,0,[],[],false,0,[],false,[],false,[],false,(⟨[],[],0,false,[]⟩:J2),false,0,[],[],[]⟩:Qu),(⟨0,(⟨false,0,false,false,false,0⟩:Qz),0,0,0,false,0,0,0,[],[]⟩:U2),(⟨0,0,[],[]⟩:Zn)⟩:Qf),0),R0))
 (some (((⟨proto,1,e.Topic,e.Payload,e.QoS,e.Retain,false,e.ID,[],0,[],0,(⟨0,false,false,0,0,[],[],false,0,[],false,[],false,[],false,(⟨[],[],0,false,[]⟩:J2),false,0,[],[],[]⟩:Qu),(⟨0,(⟨false,0,false,false,false,0⟩:Qz),0,0,0,false,0,0,0,[],[]⟩:U2),(⟨0,0,[],[]⟩:Zn)⟩:Qf),0),R0)))))))
 (cond ((proto:Int) == 2)
 ((Yj N e).bind fun v12=>
 cond (Q4 .neq v12 0)
 (some (((⟨0,0,[],[],0,false,false,0,[],0,[],0,(⟨0,false,false,0,0,[],[],false,0,[],false,[],false,[],false,(⟨[],[],0,false,[]⟩:J2),false,0,[],[],[]⟩:Qu),(⟨0,(⟨false,0,false,false,false,0⟩:Qz),0,0,0,false,0,0,0,[],[]⟩:U2),(⟨0,0,[],[]⟩:Zn)⟩:Qf),v12),R0))
 (cond (Q4 .eql proto e.Proto)
 ((Vh N e).bind fun v16=>
 some ((v16,0),R0))
 (cond (Q4 .gtr ((Q8 Qk.cells e.Props).length:Int) 0)
 (some (((⟨0,0,[],[],0,false,false,0,[],0,[],0,(⟨0,false,false,0,0,[],[],false,0,[],false,[],false,[],false,(⟨[],[],0,false,[]⟩:J2),false,0,[],[],[]⟩:Qu),(⟨0,(⟨false,0,false,false,false,0⟩:Qz),0,0,0,false,0,0,0,[],[]⟩:U2),(⟨0,0,[],[]⟩:Zn)⟩:Qf),15),R0))
 (cond (Q4 .lss e.QoS 0)
 (some (((⟨0,0,[],[],0,false,false,0,[],0,[],0,(⟨0,false,false,0,0,[],[],false,0,[],false,[],false,[],false,(⟨[],[],0,false,[]⟩:J2),false,0,[],[],[]⟩:Qu),(⟨0,(⟨false,0,false,false,false,0⟩:Qz),0,0,0,false,0,0,0,[],[]⟩:U2),(⟨0,0,[],[]⟩:Zn)⟩:Qf),15),R0))
 (cond e.Dup
 (some (((⟨proto,1,e.Topic,e.Payload,e.QoS,e.Retain,(Q4 .gtr e.QoS 0),e.ID,[],0,[],0,(⟨0,false,false,0,0,[],[],false,0,[],false,[],false,[],false,(⟨[],[],0,false,[]⟩:J2),false,0,[],[],[]⟩:Qu),(⟨0,(⟨false,0,false,false,false,0⟩:Qz),0,0,0,false,0,0,0,[],[]⟩:U2),(⟨0,0,[],[]⟩:Zn)⟩:Qf),0),R0))
 (some (((⟨proto,1,e.Topic,e.Payload,e.QoS,e.Retain,false,e.ID,[],0,[],0,(⟨0,false,false,0,0,[],[],false,0,[],false,[],false,[],false,(⟨[],[],0,false,[]⟩:J2),false,0,[],[],[]⟩:Qu),(⟨0,(⟨false,0,false,false,false,0⟩:Qz),0,0,0,false,0,0,0,[],[]⟩:U2),(⟨0,0,[],[]⟩:Zn)⟩:Qf),0),R0)))))))
 (cond ((proto:Int) == 3)
 ((Yj N e).bind fun v22=>
 cond (Q4 .neq v22 0)
 (some (((⟨0,0,[],[],0,false,false,0,[],0,[],0,(⟨0,false,false,0,0,[],[],false,0,[],false,[],false,[],false,(⟨[],[],0,false,[]⟩:J2),false,0,[],[],[]⟩:Qu),(⟨0,(⟨false,0,false,false,false,0⟩:Qz),0,0,0,false,0,0,0,[],[]⟩:U2),(⟨0,0,[],[]⟩:Zn)⟩:Qf),v22),R0))
 (cond (Q4 .eql proto e.Proto)
 ((Vh N e).bind fun v26=>
 some ((v26,0),R0))
 (cond (Q4 .gtr ((Q8 Qk.cells e.Props).length:Int) 0)
 (some (((⟨0,0,[],[],0,false,false,0,[],0,[],0,(⟨0,false,false,0,0,[],[],false,0,[],false,[],false,[],false,(⟨[],[],0,false,[]⟩:J2),false,0,[],[],[]⟩:Qu),(⟨0,(⟨false,0,false,false,false,0⟩:Qz),0,0,0,false,0,0,0,[],[]⟩:U2),(⟨0,0,[],[]⟩:Zn)⟩:Qf),15),R0))
 (cond (Q4 .eql (e.Topic.length:Int) 2)
 ((Wf N R0 client (⟨proto,1,e.Topic,e.Payload,e.QoS,e.Retain,e.Dup,e.ID,[],2,[],0,(⟨0,false,false,0,0,[],[],false,0,[],false,[],false,[],false,(⟨[],[],0,false,[]⟩:J2),false,0,[],[],[]⟩:Qu),(⟨0,(⟨false,0,false,false,false,0⟩:Qz),0,0,0,false,0,0,0,[],[]⟩:U2),(⟨0,0,[],[]⟩:Zn)⟩:Qf)).bind fun v30=>
 cond (Q4 .neq v30.1.2 0)
 (some (((⟨0,0,[],[],0,false,false,0,[],0,[],0,(⟨0,false,false,0,0,[],[],false,0,[],false,[],false,[],false,(⟨[],[],0,false,[]⟩:J2),false,0,[],[],[]⟩:Qu),(⟨0,(⟨false,0,false,false,false,0⟩:Qz),0,0,0,false,0,0,0,[],[]⟩:U2),(⟨0,0,[],[]⟩:Zn)⟩:Qf),15),v30.2))
 (some (((⟨proto,1,e.Topic,e.Payload,e.QoS,e.Retain,e.Dup,e.ID,[],2,[],0,(⟨0,false,false,0,0,[],[],false,0,[],false,[],false,[],false,(⟨[],[],0,false,[]⟩:J2),false,0,[],[],[]⟩:Qu),(⟨0,(⟨false,0,false,false,false,0⟩:Qz),0,0,0,false,0,0,0,[],[]⟩:U2),(⟨0,0,[],[]⟩:Zn)⟩:Qf),0),v30.2)))
 ((Qcl N R0 client e.Topic).bind fun v33=>
 cond (Q4 .neq v33.1.2 0)
 (some (((⟨0,0,[],[],0,false,false,0,[],0,[],0,(⟨0,false,false,0,0,[],[],false,0,[],false,[],false,[],false,(⟨[],[],0,false,[]⟩:J2),false,0,[],[],[]⟩:Qu),(⟨0,(⟨false,0,false,false,false,0⟩:Qz),0,0,0,false,0,0,0,[],[]⟩:U2),(⟨0,0,[],[]⟩:Zn)⟩:Qf),15),v33.2))
 ((Q6j N v33.2 client v33.1.1).bind fun v36=>
 cond v36.1
 ((Wf N v36.2 client (⟨proto,1,e.Topic,e.Payload,e.QoS,e.Retain,e.Dup,e.ID,[],1,[],0,(⟨0,false,false,0,0,[],[],false,0,[],false,[],false,[],false,(⟨[],[],0,false,[]⟩:J2),false,0,[],[],[]⟩:Qu),(⟨0,(⟨false,0,false,false,false,0⟩:Qz),0,0,0,false,0,0,0,[],[]⟩:U2),(⟨0,0,[],[]⟩:Zn)⟩:Qf)).bind fun v39=>
 cond (Q4 .neq v39.1.2 0)
 (some (((⟨0,0,[],[],0,false,false,0,[],0,[],0,(⟨0,false,false,0,0,[],[],false,0,[],false,[],false,[],false,(⟨[],[],0,false,[]⟩:J2),false,0,[],[],[]⟩:Qu),(⟨0,(⟨false,0,false,false,false,0⟩:Qz),0,0,0,false,0,0,0,[],[]⟩:U2),(⟨0,0,[],[]⟩:Zn)⟩:Qf),15),v39.2))
 (some (((⟨proto,1,e.Topic,e.Payload,e.QoS,e.Retain,e.Dup,e.ID,[],1,[],0,(⟨0,false,false,0,0,[],[],false,0,[],false,[],false,[],false,(⟨[],[],0,false,[]⟩:J2),false,0,[],[],[]⟩:Qu),(⟨0,(⟨false,0,false,false,false,0⟩:Qz),0,0,0,false,0,0,0,[],[]⟩:U2),(⟨0,0,[],[]⟩:Zn)⟩:Qf),0),v39.2)))
 ((Wf N v36.2 client (⟨proto,1,e.Topic,e.Payload,e.QoS,e.Retain,e.Dup,e.ID,[],0,[],0,(⟨0,false,false,0,0,[],[],false,0,[],false,[],false,[],false,(⟨[],[],0,false,[]⟩:J2),false,0,[],[],[]⟩:Qu),(⟨0,(⟨false,0,false,false,false,0⟩:Qz),0,0,0,false,0,0,0,[],[]⟩:U2),(⟨0,0,[],[]⟩:Zn)⟩:Qf)).bind fun v42=>
 cond (Q4 .neq v42.1.2 0)
 (some (((⟨0,0,[],[],0,false,false,0,[],0,[],0,(⟨0,false,false,0,0,[],[],false,0,[],false,[],false,[],false,(⟨[],[],0,false,[]⟩:J2),false,0,[],[],[]⟩:Qu),(⟨0,(⟨false,0,false,false,false,0⟩:Qz),0,0,0,false,0,0,0,[],[]⟩:U2),(⟨0,0,[],[]⟩:Zn)⟩:Qf),15),v42.2))
 (some (((⟨proto,1,e.Topic,e.Payload,e.QoS,e.Retain,e.Dup,e.ID,[],0,[],0,(⟨0,false,false,0,0,[],[],false,0,[],false,[],false,[],false,(⟨[],[],0,false,[]⟩:J2),false,0,[],[],[]⟩:Qu),(⟨0,(⟨false,0,false,false,false,0⟩:Qz),0,0,0,false,0,0,0,[],[]⟩:U2),(⟨0,0,[],[]⟩:Zn)⟩:Qf),0),v42.2)))))))))
 (cond ((proto:Int) == 4)
 ((Yj N e).bind fun v46=>
 cond (Q4 .neq v46 0)
 (some (((⟨0,0,[],[],0,false,false,0,[],0,[],0,(⟨0,false,false,0,0,[],[],false,0,[],false,[],false,[],false,(⟨[],[],0,false,[]⟩:J2),false,0,[],[],[]⟩:Qu),(⟨0,(⟨false,0,false,false,false,0⟩:Qz),0,0,0,false,0,0,0,[],[]⟩:U2),(⟨0,0,[],[]⟩:Zn)⟩:Qf),v46),R0))
 (cond (Q4 .eql proto e.Proto)
 ((Vh N e).bind fun v50=>
 some ((v50,0),R0))
 (cond (Q4 .gtr ((Q8 Qk.cells e.Props).length:Int) 0)
 (some (((⟨0,0,[],[],0,false,false,0,[],0,[],0,(⟨0,false,false,0,0,[],[],false,0,[],false,[],false,[],false,(⟨[],[],0,false,[]⟩:J2),false,0,[],[],[]⟩:Qu),(⟨0,(⟨false,0,false,false,false,0⟩:Qz),0,0,0,false,0,0,0,[],[]⟩:U2),(⟨0,0,[],[]⟩:Zn)⟩:Qf),15),R0))
 (cond (Q4 .lss e.QoS 0)
 (some (((⟨0,0,[],[],0,false,false,0,[],0,[],0,(⟨0,false,false,0,0,[],[],false,0,[],false,[],false,[],false,(⟨[],[],0,false,[]⟩:J2),false,0,[],[],[]⟩:Qu),(⟨0,(⟨false,0,false,false,false,0⟩:Qz),0,0,0,false,0,0,0,[],[]⟩:U2),(⟨0,0,[],[]⟩:Zn)⟩:Qf),15),R0))
 (cond e.Dup
 (some (((⟨proto,1,e.Topic,e.Payload,e.QoS,e.Retain,(Q4 .gtr e.QoS 0),e.ID,[],0,[],0,(⟨0,false,false,0,0,[],[],false,0,[],false,[],false,[],false,(⟨[],[],0,false,[]⟩:J2),false,0,[],[],[]⟩:Qu),(⟨0,(⟨false,0,false,false,false,0⟩:Qz),0,0,0,false,0,0,0,[],[]⟩:U2),(⟨0,0,[],[]⟩:Zn)⟩:Qf),0),R0))
 (some (((⟨proto,1,e.Topic,e.Payload,e.QoS,e.Retain,false,e.ID,[],0,[],0,(⟨0,false,false,0,0,[],[],false,0,[],false,[],false,[],false,(⟨[],[],0,false,[]⟩:J2),false,0,[],[],[]⟩:Qu),(⟨0,(⟨false,0,false,false,false,0⟩:Qz),0,0,0,false,0,0,0,[],[]⟩:U2),(⟨0,0,[],[]⟩:Zn)⟩:Qf),0),R0)))))))
 (some (((⟨0,0,[],[],0,false,false,0,[],0,[],0,(⟨0,false,false,0,0,[],[],false,0,[],false,[],false,[],false,(⟨[],[],0,false,[]⟩:J2),false,0,[],[],[]⟩:Qu),(⟨0,(⟨false,0,false,false,false,0⟩:Qz),0,0,0,false,0,0,0,[],[]⟩:U2),(⟨0,0,[],[]⟩:Zn)⟩:Qf),2),R0)))))
theorem Qae {N} {R0} {client} {e} {proto} {r} (h:Q0e N R0 client e proto=some r):Q4p Tryz.prog G1 10 R0 [.str client,.agg (Qf.cells e),.int .i64 proto] (.tuple [.agg (Qf.cells r.1.1),.int .i64 r.1.2]) r.2:=by
 refine Qfp k10 ?_;unfold Q0e at h;rw [cX] at h;refine ifO h (fun hc1 h=>?_) (fun hc1 h=>?_)
 ·refine cP h Ux (.cons (Ar (Xd (Xd (Xd (f2_ (f1_ (.cons (.p _) p5))))))) .nil) fun v2 h=>?_;apply iU h<;>intro h
  ·obtain rfl:=Qn h;exact ⟨1,rfl,(Au (.cons (Ar (f8_ (.cons (.nil _) (.cons (.p _) (.cons (.nil _) (Xd (f4_ (.cons (.nil _) (f2_ (.cons (.nil _) (.cons (.nil _) (.cons (.nil _) (Xd (f2_ (f1_ (.cons (.nil _) .nil)))))))))))))))) p1))⟩
  refine ifF (Z1j hc1 (by decide)) ?_;apply iU h<;>intro h
  ·refine cP h Q1i (.cons (Ar (Xd (Xd (Xd (f2_ (f1_ (.cons (.p _) p5))))))) .nil) fun v6 h=>?_;obtain rfl:=Qn h;exact ⟨1,rfl,(Au (.cons (Ar (Xd (Xd (Xd (f2_ (f1_ (.cons (.p _) p5))))))) p1))⟩
  apply iU h<;>intro h
  ·obtain rfl:=Qn h;exact ⟨1,rfl,(Au (.cons (Ar (f8_ (.cons (.nil _) (.cons (.p _) (.cons (.nil _) (Xd (f4_ (.cons (.nil _) (f2_ (.cons (.nil _) (.cons (.nil _) (.cons (.nil _) (Xd (f2_ (f1_ (.cons (.nil _) .nil)))))))))))))))) p1))⟩
  refine Qa k29 ?_;apply iU h<;>intro h
  ·obtain rfl:=Qn h;exact ⟨1,rfl,(Au (.cons (Ar (f8_ (.cons (.nil _) (.cons (.p _) (.cons (.nil _) (Xd (f4_ (.cons (.nil _) (f2_ (.cons (.nil _) (.cons (.nil _) (.cons (.nil _) (Xd (f2_ (f1_ (.cons (.nil _) .nil)))))))))))))))) p1))⟩
  apply iU h<;>intro h
  ·refine Qa k53 ?_;obtain rfl:=Qn h;exact ⟨1,rfl,(Au (.cons (Ar (f8_ (.cons (.nil _) (.cons (.p _) (.cons (.nil _) (Xd (f4_ (.cons (.nil _) (f2_ (.cons (.nil _) (.cons (.nil _) (.cons (.nil _) (Xd (f2_ (f1_ (.cons (.nil _) .nil)))))))))))))))) p1))⟩
  refine Qa k53 ?_;obtain rfl:=Qn h;exact ⟨1,rfl,(Au (.cons (Ar (f8_ (.cons (.nil _) (.cons (.p _) (.cons (.nil _) (Xd (f4_ (.cons (.nil _) (f2_ (.cons (.nil _) (.cons (.nil _) (.cons (.nil _) (Xd (f2_ (f1_ (.cons (.nil _) .nil)))))))))))))))) p1))⟩
 refine ifO h (fun hc11 h=>?_) (fun hc11 h=>?_)
 ·refine cP h Ux (.cons (Ar (Xd (Xd (Xd (f2_ (f1_ (.cons (.p _) p5))))))) .nil) fun v12 h=>?_;apply iU h<;>intro h
  ·obtain rfl:=Qn h;exact ⟨1,rfl,(Au (.cons (Ar (f8_ (.cons (.nil _) (.cons (.p _) (.cons (.nil _) (Xd (f4_ (.cons (.nil _) (f2_ (.cons (.nil _) (.cons (.nil _) (.cons (.nil _) (Xd (f2_ (f1_ (.cons (.nil _) .nil)))))))))))))))) p1))⟩
  refine ifF (Z1j hc11 (by decide)) ?_;apply iU h<;>intro h
  ·refine cP h Q1i (.cons (Ar (Xd (Xd (Xd (f2_ (f1_ (.cons (.p _) p5))))))) .nil) fun v16 h=>?_;obtain rfl:=Qn h;exact ⟨1,rfl,(Au (.cons (Ar (Xd (Xd (Xd (f2_ (f1_ (.cons (.p _) p5))))))) p1))⟩
  apply iU h<;>intro h
  ·obtain rfl:=Qn h;exact ⟨1,rfl,(Au (.cons (Ar (f8_ (.cons (.nil _) (.cons (.p _) (.cons (.nil _) (Xd (f4_ (.cons (.nil _) (f2_ (.cons (.nil _) (.cons (.nil _) (.cons (.nil _) (Xd (f2_ (f1_ (.cons (.nil _) .nil)))))))))))))))) p1))⟩
  refine Qa k29 ?_;apply iU h<;>intro h
  ·obtain rfl:=Qn h;exact ⟨1,rfl,(Au (.cons (Ar (f8_ (.cons (.nil _) (.cons (.p _) (.cons (.nil _) (Xd (f4_ (.cons (.nil _) (f2_ (.cons (.nil _) (.cons (.nil _) (.cons (.nil _) (Xd (f2_ (f1_ (.cons (.nil _) .nil)))))))))))))))) p1))⟩
  apply iU h<;>intro h
  ·refine Qa k53 ?_;obtain rfl:=Qn h;exact ⟨1,rfl,(Au (.cons (Ar (f8_ (.cons (.nil _) (.cons (.p _) (.cons (.nil _) (Xd (f4_ (.cons (.nil _) (f2_ (.cons (.nil _) (.cons (.nil _) (.cons (.nil _) (Xd (f2_ (f1_ (.cons (.nil _) .nil)))))))))))))))) p1))⟩
  refine Qa k53 ?_;obtain rfl:=Qn h;exact ⟨1,rfl,(Au (.cons (Ar (f8_ (.cons (.nil _) (.cons (.p _) (.cons (.nil _) (Xd (f4_ (.cons (.nil _) (f2_ (.cons (.nil _) (.cons (.nil _) (.cons (.nil _) (Xd (f2_ (f1_ (.cons (.nil _) .nil)))))))))))))))) p1))⟩
 refine ifO h (fun hc21 h=>?_) (fun hc21 h=>?_)
 ·refine cP h Ux (.cons (Ar (Xd (Xd (Xd (f2_ (f1_ (.cons (.p _) p5))))))) .nil) fun v22 h=>?_;apply iU h<;>intro h
  ·obtain rfl:=Qn h;exact ⟨1,rfl,(Au (.cons (Ar (f8_ (.cons (.nil _) (.cons (.p _) (.cons (.nil _) (Xd (f4_ (.cons (.nil _) (f2_ (.cons (.nil _) (.cons (.nil _) (.cons (.nil _) (Xd (f2_ (f1_ (.cons (.nil _) .nil)))))))))))))))) p1))⟩
  refine ifT (Z1j hc21 (by decide)) ?_;apply iU h<;>intro h
  ·refine cP h Q1i (.cons (Ar (Xd (Xd (Xd (f2_ (f1_ (.cons (.p _) p5))))))) .nil) fun v26 h=>?_;obtain rfl:=Qn h;exact ⟨1,rfl,(Au (.cons (Ar (Xd (Xd (Xd (f2_ (f1_ (.cons (.p _) p5))))))) p1))⟩
  apply iU h<;>intro h
  ·obtain rfl:=Qn h;exact ⟨1,rfl,(Au (.cons (Ar (f8_ (.cons (.nil _) (.cons (.p _) (.cons (.nil _) (Xd (f4_ (.cons (.nil _) (f2_ (.cons (.nil _) (.cons (.nil _) (.cons (.nil _) (Xd (f2_ (f1_ (.cons (.nil _) .nil)))))))))))))))) p1))⟩
  refine Qa k30 ?_;refine Qa k53 ?_;apply iU h<;>intro h
  ·refine cRg h Q31 (b:=1) rfl (.cons (.p _) (.cons (Ar (f8_ (.cons (.nil _) (.cons (.p _) (.cons (.nil _) (Xd (f4_ (.cons (.nil _) (f2_ (.cons (.nil _) (.cons (.nil _) (.cons (.nil _) (Xd (f2_ (f1_ (.cons (.nil _) .nil)))))))))))))))) .nil)) fun v30 h=>?_;apply iU h<;>intro h
   ·obtain rfl:=Qn h;exact ⟨11,rfl,(Au (.cons (Ar (f8_ (.cons (.nil _) (.cons (.p _) (.cons (.nil _) (Xd (f4_ (.cons (.nil _) (f2_ (.cons (.nil _) (.cons (.nil _) (.cons (.nil _) (Xd (f2_ (f1_ (.cons (.nil _) .nil)))))))))))))))) p1))⟩
   obtain rfl:=Qn h;exact ⟨11,rfl,(Au (.cons (Ar (f8_ (.cons (.nil _) (.cons (.p _) (.cons (.nil _) (Xd (f4_ (.cons (.nil _) (f2_ (.cons (.nil _) (.cons (.nil _) (.cons (.nil _) (Xd (f2_ (f1_ (.cons (.nil _) .nil)))))))))))))))) p1))⟩
  refine cRg h Q8w (b:=1) rfl p2 fun v33 h=>?_;apply iU h<;>intro h
  ·obtain rfl:=Qn h;exact ⟨11,rfl,(Au (.cons (Ar (f8_ (.cons (.nil _) (.cons (.p _) (.cons (.nil _) (Xd (f4_ (.cons (.nil _) (f2_ (.cons (.nil _) (.cons (.nil _) (.cons (.nil _) (Xd (f2_ (f1_ (.cons (.nil _) .nil)))))))))))))))) p1))⟩
  refine cRg h Q4x (b:=11) rfl p2 fun v36 h=>?_;apply iU h<;>intro h
  ·refine cRg h Q31 (b:=12) rfl (.cons (.p _) (.cons (Ar (f8_ (.cons (.nil _) (.cons (.p _) (.cons (.nil _) (Xd (f4_ (.cons (.nil _) (f2_ (.cons (.nil _) (.cons (.nil _) (.cons (.nil _) (Xd (f2_ (f1_ (.cons (.nil _) .nil)))))))))))))))) .nil)) fun v39 h=>?_;apply iU h<;>intro h
   ·obtain rfl:=Qn h;exact ⟨13,rfl,(Au (.cons (Ar (f8_ (.cons (.nil _) (.cons (.p _) (.cons (.nil _) (Xd (f4_ (.cons (.nil _) (f2_ (.cons (.nil _) (.cons (.nil _) (.cons (.nil _) (Xd (f2_ (f1_ (.cons (.nil _) .nil)))))))))))))))) p1))⟩
   obtain rfl:=Qn h;exact ⟨13,rfl,(Au (.cons (Ar (f8_ (.cons (.nil _) (.cons (.p _) (.cons (.nil _) (Xd (f4_ (.cons (.nil _) (f2_ (.cons (.nil _) (.cons (.nil _) (.cons (.nil _) (Xd (f2_ (f1_ (.cons (.nil _) .nil)))))))))))))))) p1))⟩
  refine cRg h Q31 (b:=12) rfl (.cons (.p _) (.cons (Ar (f8_ (.cons (.nil _) (.cons (.p _) (.cons (.nil _) (Xd (f4_ (.cons (.nil _) (f2_ (.cons (.nil _) (.cons (.nil _) (.cons (.nil _) (Xd (f2_ (f1_ (.cons (.nil _) .nil)))))))))))))))) .nil)) fun v42 h=>?_;apply iU h<;>intro h
  ·obtain rfl:=Qn h;exact ⟨13,rfl,(Au (.cons (Ar (f8_ (.cons (.nil _) (.cons (.p _) (.cons (.nil _) (Xd (f4_ (.cons (.nil _) (f2_ (.cons (.nil _) (.cons (.nil _) (.cons (.nil _) (Xd (f2_ (f1_ (.cons (.nil _) .nil)))))))))))))))) p1))⟩
  obtain rfl:=Qn h;exact ⟨13,rfl,(Au (.cons (Ar (f8_ (.cons (.nil _) (.cons (.p _) (.cons (.nil _) (Xd (f4_ (.cons (.nil _) (f2_ (.cons (.nil _) (.cons (.nil _) (.cons (.nil _) (Xd (f2_ (f1_ (.cons (.nil _) .nil)))))))))))))))) p1))⟩
 refine ifO h (fun hc45 h=>?_) (fun hc45 h=>?_)
 ·refine cP h Ux (.cons (Ar (Xd (Xd (Xd (f2_ (f1_ (.cons (.p _) p5))))))) .nil) fun v46 h=>?_;apply iU h<;>intro h
  ·obtain rfl:=Qn h;exact ⟨1,rfl,(Au (.cons (Ar (f8_ (.cons (.nil _) (.cons (.p _) (.cons (.nil _) (Xd (f4_ (.cons (.nil _) (f2_ (.cons (.nil _) (.cons (.nil _) (.cons (.nil _) (Xd (f2_ (f1_ (.cons (.nil _) .nil)))))))))))))))) p1))⟩
  refine ifF (Z1j hc45 (by decide)) ?_;apply iU h<;>intro h
  ·refine cP h Q1i (.cons (Ar (Xd (Xd (Xd (f2_ (f1_ (.cons (.p _) p5))))))) .nil) fun v50 h=>?_;obtain rfl:=Qn h;exact ⟨1,rfl,(Au (.cons (Ar (Xd (Xd (Xd (f2_ (f1_ (.cons (.p _) p5))))))) p1))⟩
  apply iU h<;>intro h
  ·obtain rfl:=Qn h;exact ⟨1,rfl,(Au (.cons (Ar (f8_ (.cons (.nil _) (.cons (.p _) (.cons (.nil _) (Xd (f4_ (.cons (.nil _) (f2_ (.cons (.nil _) (.cons (.nil _) (.cons (.nil _) (Xd (f2_ (f1_ (.cons (.nil _) .nil)))))))))))))))) p1))⟩
  refine Qa k29 ?_;apply iU h<;>intro h
  ·obtain rfl:=Qn h;exact ⟨1,rfl,(Au (.cons (Ar (f8_ (.cons (.nil _) (.cons (.p _) (.cons (.nil _) (Xd (f4_ (.cons (.nil _) (f2_ (.cons (.nil _) (.cons (.nil _) (.cons (.nil _) (Xd (f2_ (f1_ (.cons (.nil _) .nil)))))))))))))))) p1))⟩
  apply iU h<;>intro h
  ·refine Qa k53 ?_;obtain rfl:=Qn h;exact ⟨1,rfl,(Au (.cons (Ar (f8_ (.cons (.nil _) (.cons (.p _) (.cons (.nil _) (Xd (f4_ (.cons (.nil _) (f2_ (.cons (.nil _) (.cons (.nil _) (.cons (.nil _) (Xd (f2_ (f1_ (.cons (.nil _) .nil)))))))))))))))) p1))⟩
  refine Qa k53 ?_;obtain rfl:=Qn h;exact ⟨1,rfl,(Au (.cons (Ar (f8_ (.cons (.nil _) (.cons (.p _) (.cons (.nil _) (Xd (f4_ (.cons (.nil _) (f2_ (.cons (.nil _) (.cons (.nil _) (.cons (.nil _) (Xd (f2_ (f1_ (.cons (.nil _) .nil)))))))))))))))) p1))⟩
 obtain rfl:=Qn h;exact ⟨1,rfl,(Au (.cons (Ar (f8_ (.cons (.nil _) (.cons (.p _) (.cons (.nil _) (Xd (f4_ (.cons (.nil _) (f2_ (.cons (.nil _) (.cons (.nil _) (.cons (.nil _) (Xd (f2_ (f1_ (.cons (.nil _) .nil)))))))))))))))) p1))⟩
def Xo (N:Nat) (a:List Qk) (b:List Qk):Nat→Int→Option Bool
 | 0,_=>none
 | n+1,i17=>
  cond (Q4 .lss i17 ((Q8 Qk.cells a).length:Int))
  ((idx a i17).bind fun y19=>
  (idx b i17).bind fun y21=>
  cond (!(((y19.ID:Int) == y21.ID)&&(((y19.N':Int) == y21.N')&&(((y19.Text:List UInt8) == y21.Text)&&(((y19.Value:List UInt8) == y21.Value)&&true)))))
  (some false)
  (Xo N a b n (wrap .i64 (i17+1))))
  (some true)
def Xs (N:Nat) (a:List Qk) (b:List Qk):Option Bool:=
 cond (Q4 .neq ((Q8 Qk.cells a).length:Int) ((Q8 Qk.cells b).length:Int))
 (some false)
 (Xo N a b N 0)
theorem Jx {N} {a} {b} {r} (h:Xs N a b=some r):pU 33 [.slice 4 (Q8 Qk.cells a),.slice 4 (Q8 Qk.cells b)] (.bool r):=by
 refine Q2 k33 ?_;unfold Xs at h;rw [cX] at h;refine iL h fun h=>?_;refine lpH (τ:=Int) (fun i17=>(.p (.slice 4 (Q8 Qk.cells a)) :: .p (.slice 4 (Q8 Qk.cells b))::a2 (.any::iI i17::a16 (a4 ([]))):List AV)) (fun n0 i17=>Xo N a b n0 i17) (0) h fun n0 i17 h=>?_
 first | rw [Xo] at h | simp only [Xo] at h
 rw [cX] at h;refine iR h fun h=>?_;refine Qp ?_;refine xR h fun y19 h=>?_;refine xR h fun y21 h=>?_;refine iL h fun h=>?_;show Exists _;exact ⟨(n0,(wrap .i64 (i17+1))),h,Lf _,(fun i=>i),Ya⟩
def Xn (N:Nat) (a:List Vd) (b:List Vd):Nat→Int→Option Bool
 | 0,_=>none
 | n+1,i17=>
  cond (Q4 .lss i17 ((Q8 Vd.cells a).length:Int))
  ((idx a i17).bind fun y19=>
  (idx b i17).bind fun y21=>
  cond (!(((y19.Radius:Int) == y21.Radius)&&(((y19.Node:List UInt8) == y21.Node)&&true)))
  (some false)
  (Xn N a b n (wrap .i64 (i17+1))))
  (some true)
def U0 (N:Nat) (a:List Vd) (b:List Vd):Option Bool:=
 cond (Q4 .neq ((Q8 Vd.cells a).length:Int) ((Q8 Vd.cells b).length:Int))
 (some false)
 (Xn N a b N 0)
theorem Q6c {N} {a} {b} {r} (h:U0 N a b=some r):pU 34 [.slice 2 (Q8 Vd.cells a),.slice 2 (Q8 Vd.cells b)] (.bool r):=by
 refine Q2 k34 ?_;unfold U0 at h;rw [cX] at h;refine iL h fun h=>?_;refine lpH (τ:=Int) (fun i17=>(.p (.slice 2 (Q8 Vd.cells a)) :: .p (.slice 2 (Q8 Vd.cells b))::a2 (.any::iI i17::a16 (a4 ([]))):List AV)) (fun n0 i17=>Xn N a b n0 i17) (0) h fun n0 i17 h=>?_
 first | rw [Xn] at h | simp only [Xn] at h
 rw [cX] at h;refine iR h fun h=>?_;refine Qp ?_;refine xR h fun y19 h=>?_;refine xR h fun y21 h=>?_;refine iL h fun h=>?_;show Exists _;exact ⟨(n0,(wrap .i64 (i17+1))),h,Lf _,(fun i=>i),Ya⟩
def Xq (N:Nat) (a:List Int) (b:List Int):Nat→Int→Option Bool
 | 0,_=>none
 | n+1,i17=>
  cond (Q4 .lss i17 ((Q8 (cI .i64) a).length:Int))
  ((idx a i17).bind fun y19=>
  (idx b i17).bind fun y21=>
  cond (Q4 .neq y19 y21)
  (some false)
  (Xq N a b n (wrap .i64 (i17+1))))
  (some true)
def Vz (N:Nat) (a:List Int) (b:List Int):Option Bool:=
 cond (Q4 .neq ((Q8 (cI .i64) a).length:Int) ((Q8 (cI .i64) b).length:Int))
 (some false)
 (Xq N a b N 0)
theorem Q6n {N} {a} {b} {r} (h:Vz N a b=some r):pU 76 [.slice 1 (Q8 (cI .i64) a),.slice 1 (Q8 (cI .i64) b)] (.bool r):=by
 refine Q2 k76 ?_;unfold Vz at h;rw [cX] at h;refine iL h fun h=>?_;refine lpH (τ:=Int) (fun i17=>(.p (.slice 1 (Q8 (cI .i64) a)) :: .p (.slice 1 (Q8 (cI .i64) b))::a2 (.any::iI i17::a16 (a4 ([]))):List AV)) (fun n0 i17=>Xq N a b n0 i17) (0) h fun n0 i17 h=>?_
 first | rw [Xq] at h | simp only [Xq] at h
 rw [cX] at h;refine iR h fun h=>?_;refine Qp ?_;refine xR h fun y19 h=>?_;refine xR h fun y21 h=>?_;refine iL h fun h=>?_;show Exists _;exact ⟨(n0,(wrap .i64 (i17+1))),h,Lf _,(fun i=>i),Ya⟩
def Ys (N:Nat) (a:List Z0) (b:List Z0):Nat→Int→Option Bool
 | 0,_=>none
 | n+1,i17=>
  cond (Q4 .lss i17 ((Q8 Z0.cells a).length:Int))
  ((idx a i17).bind fun y19=>
  (idx b i17).bind fun y21=>
  cond (!(((y19.Topic:List UInt8) == y21.Topic)&&(((y19.QoS:Int) == y21.QoS)&&(((y19.NoLocal:Bool) == y21.NoLocal)&&(((y19.AsPublished:Bool) == y21.AsPublished)&&(((y19.Handling:Int) == y21.Handling)&&true))))))
  (some false)
  (Ys N a b n (wrap .i64 (i17+1))))
  (some true)
def Wk (N:Nat) (a:List Z0) (b:List Z0):Option Bool:=
 cond (Q4 .neq ((Q8 Z0.cells a).length:Int) ((Q8 Z0.cells b).length:Int))
 (some false)
 (Ys N a b N 0)
theorem Q4c {N} {a} {b} {r} (h:Wk N a b=some r):pU 77 [.slice 5 (Q8 Z0.cells a),.slice 5 (Q8 Z0.cells b)] (.bool r):=by
 refine Q2 k77 ?_;unfold Wk at h;rw [cX] at h;refine iL h fun h=>?_;refine lpH (τ:=Int) (fun i17=>(.p (.slice 5 (Q8 Z0.cells a)) :: .p (.slice 5 (Q8 Z0.cells b))::a2 (.any::iI i17::a16 (a4 ([]))):List AV)) (fun n0 i17=>Ys N a b n0 i17) (0) h fun n0 i17 h=>?_
 first | rw [Ys] at h | simp only [Ys] at h
 rw [cX] at h;refine iR h fun h=>?_;refine Qp ?_;refine xR h fun y19 h=>?_;refine xR h fun y21 h=>?_;refine iL h fun h=>?_;show Exists _;exact ⟨(n0,(wrap .i64 (i17+1))),h,Lf _,(fun i=>i),Ya⟩
def Wq (N:Nat) (a:Qu) (b:Qu):Option Bool:=
 cond (G9 .neq a.Will.Topic b.Will.Topic)
 (some false)
 (cond (G9 .neq a.Will.Payload b.Will.Payload)
 (some false)
 (cond (Q4 .neq a.Will.QoS b.Will.QoS)
 (some false)
 (cond (!(a.Will.Retain == b.Will.Retain))
 (some false)
 ((Xs N a.Will.Props b.Will.Props).bind fun v5=>
 cond (!v5)
 (some false)
 (cond (Q4 .neq a.Kind b.Kind)
 (some false)
 (cond (!(a.Dup == b.Dup))
 (some false)
 (cond (!(a.Retain == b.Retain))
 (some false)
 (cond (Q4 .neq a.QoS b.QoS)
 (some false)
 (cond (Q4 .neq a.ID b.ID)
 (some false)
 (cond (G9 .neq a.Topic b.Topic)
 (some false)
 (cond (G9 .neq a.Payload b.Payload)
 (some false)
 (cond (!(a.Clean == b.Clean))
 (some false)
 (cond (Q4 .neq a.KeepAlive b.KeepAlive)
 (some false)
 (cond (G9 .neq a.Client b.Client)
 (some false)
 (cond (!(a.HasUser == b.HasUser))
 (some false)
 (cond (G9 .neq a.User b.User)
 (some false)
 (cond (!(a.HasPass == b.HasPass))
 (some false)
 (cond (G9 .neq a.Pass b.Pass)
 (some false)
 (cond (!(a.HasWill == b.HasWill))
 (some false)
 (cond (!(a.Session == b.Session))
 (some false)
 (cond (Q4 .neq a.Code b.Code)
 (some false)
 ((Vz N a.Codes b.Codes).bind fun v25=>
 cond v25
 ((Wk N a.Filters b.Filters).bind fun v28=>
 cond v28
 ((Xs N a.Props b.Props).bind fun v31=>
 some v31)
 (some false))
 (some false)))))))))))))))))))))))
theorem Q1s {N} {a} {b} {r} (h:Wq N a b=some r):pU 35 [.agg (Qu.cells a),.agg (Qu.cells b)] (.bool r):=by
 refine Q2 k35 ?_;unfold Wq at h;rw [cX,cY] at h;refine Qp ?_;refine iL h fun h=>?_;refine iL h fun h=>?_;refine iL h fun h=>?_;refine iL h fun h=>?_;refine cP h Jx p2 fun v5 h=>?_;refine iL h fun h=>?_;refine iL h fun h=>?_;refine iL h fun h=>?_;refine iL h fun h=>?_;refine iL h fun h=>?_;refine iL h fun h=>?_;refine iL h fun h=>?_;refine iL h fun h=>?_;refine iL h fun h=>?_;refine iL h fun h=>?_;refine iL h fun h=>?_;refine iL h fun h=>?_;refine iL h fun h=>?_;refine iL h fun h=>?_;refine iL h fun h=>?_;refine iL h fun h=>?_;refine iL h fun h=>?_;refine iL h fun h=>?_;refine cP h Q6n p2 fun v25 h=>?_;refine iR h fun h=>?_;refine cP h Q4c p2 fun v28 h=>?_;refine iR h fun h=>?_;refine cP h Jx p2 fun v31 h=>?_;cases h;exact (.p _)
def Yu (rz:Q0→Q0→Option Bool) (N:Nat) (a:Q0) (b:Q0):Nat→Int→Option Bool
 | 0,_=>none
 | n+1,i22=>
  cond (Q4 .lss i22 ((Q0.rows a.Items).length:Int))
  ((idx a.Items i22).bind fun y24=>
  (idx b.Items i22).bind fun y26=>
  (rz y24 y26).bind fun v28=>
  cond (!v28)
  (some false)
  (Yu rz N a b n (wrap .i64 (i22+1))))
  (some true)
def J7 (rz:Q0→Q0→Option Bool) (N:Nat) (a:Q0) (b:Q0):Option Bool:=
 cond (Q4 .neq a.Kind b.Kind)
 (some false)
 (cond (Q4 .neq a.N' b.N')
 (some false)
 (cond (G9 .neq a.Text b.Text)
 (some false)
 (cond (Q4 .neq ((Q0.rows a.Items).length:Int) ((Q0.rows b.Items).length:Int))
 (some false)
 (Yu rz N a b N 0))))
theorem Q68 {rz:Q0→Q0→Option Bool} (hy1:∀ {a} {b} {r},rz a b=some r→pU 78 [.agg (Q0.cells a),.agg (Q0.cells b)] (.bool r)) {N} {a} {b} {r} (h:J7 rz N a b=some r):pU 78 [.agg (Q0.cells a),.agg (Q0.cells b)] (.bool r):=by
 refine Q2 k78 ?_;unfold J7 at h;rw [cX,cY] at h;refine iL h fun h=>?_;refine iL h fun h=>?_;refine iL h fun h=>?_;refine iL h fun h=>?_;refine lpH (τ:=Int) (fun i22=>(.any :: .any :: .ptr 0 0 :: .ptr 1 0 :: .any::iI i22::a16 (a16 (a8 (a4 (a2 (.any :: []))))):List AV)) (fun n0 i22=>Yu rz N a b n0 i22) (0) h fun n0 i22 h=>?_
 first | rw [Yu] at h | simp only [Yu] at h
 rw [cX] at h;refine iR h fun h=>?_;refine Qp ?_;refine Q0.xR h fun y24 h=>?_;refine Q0.xR h fun y26 h=>?_;refine cD h hy1 (.cons q4 (.cons q4 .nil)) fun v28 h=>?_;refine iL h fun h=>?_;show Exists _;exact ⟨(n0,(wrap .i64 (i22+1))),h,Lf _,(fun i=>i),Ya⟩
def Xt:Nat→Q0→Q0→Option Bool
 | 0=>fun _ _=>none
 | N+1=>J7 (Xt N) N
theorem Q6h {N} {a} {b} {r} (h:Xt N a b=some r):pU 78 [.agg (Q0.cells a),.agg (Q0.cells b)] (.bool r):=by
 induction N generalizing a b r with
 | zero=>simp [Xt] at h
 | succ N ih=>exact Q68 (fun h=>ih h) h
def Zx (N:Nat) (a:Zn) (b:Zn):Nat→Int→Option Bool
 | 0,_=>none
 | n+1,i22=>
  cond (Q4 .lss i22 ((Q0.rows a.Values).length:Int))
  ((idx a.Values i22).bind fun y24=>
  (idx b.Values i22).bind fun y26=>
  (Xt N y24 y26).bind fun v28=>
  cond (!v28)
  (some false)
  (Zx N a b n (wrap .i64 (i22+1))))
  (some true)
def Wr (N:Nat) (a:Zn) (b:Zn):Option Bool:=
 cond (Q4 .neq a.Type' b.Type')
 (some false)
 (cond (Q4 .neq a.Channel b.Channel)
 (some false)
 (cond (G9 .neq a.Ext b.Ext)
 (some false)
 (cond (Q4 .neq ((Q0.rows a.Values).length:Int) ((Q0.rows b.Values).length:Int))
 (some false)
 (Zx N a b N 0))))
theorem Q1c {N} {a} {b} {r} (h:Wr N a b=some r):pU 36 [.agg (Zn.cells a),.agg (Zn.cells b)] (.bool r):=by
 refine Q2 k36 ?_;unfold Wr at h;rw [cX,cY] at h;refine iL h fun h=>?_;refine iL h fun h=>?_;refine iL h fun h=>?_;refine iL h fun h=>?_;refine lpH (τ:=Int) (fun i22=>(.any :: .any :: .ptr 0 0 :: .ptr 1 0 :: .any::iI i22::a16 (a16 (a8 (a4 (a2 (.any :: []))))):List AV)) (fun n0 i22=>Zx N a b n0 i22) (0) h fun n0 i22 h=>?_
 first | rw [Zx] at h | simp only [Zx] at h
 rw [cX] at h;refine iR h fun h=>?_;refine Qp ?_;refine Q0.xR h fun y24 h=>?_;refine Q0.xR h fun y26 h=>?_;refine cD h Q6h (.cons q4 (.cons q4 .nil)) fun v28 h=>?_;refine iL h fun h=>?_;show Exists _;exact ⟨(n0,(wrap .i64 (i22+1))),h,Lf _,(fun i=>i),Ya⟩
end
end
end Go.Av
