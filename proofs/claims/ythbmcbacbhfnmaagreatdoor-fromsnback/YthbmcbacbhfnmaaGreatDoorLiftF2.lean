/- Part of FromsnBack: the law returns true; no condition. -/
import Derived.Test.YthbmcbacbhfnmaaGreatDoorLiftF1
set_option linter.all false
open Go.IntKind (wrap)
namespace Go.Av
noncomputable section
open Go.Proofs
set_option maxRecDepth 100000
set_option maxHeartbeats 4000000
attribute [local irreducible] Wz Qq Qaj Qa1 Z03 Qpy Qjw
section
def Q0x (N:Nat) (s_0:List UInt8):Option Bool:=
 (Q69 N s_0).bind fun v1=>
 cond v1
 ((Q3q N s_0).bind fun v4=>
 (Q3o N v4).bind fun v6=>
 some v6)
 (some false)
def Q8v {N} {s_0} {r} (h:Q0x N s_0=some r):pU 281 [.str s_0] (.bool r):=by
 refine Q1 Zhs ?_;unfold Q0x at h;refine cP h Qb4 p1 fun v1 h=>iR h fun h=>cP h Qf5 p1 fun v4 h=>cP h Qej p1 fun v6 h=>?_;exact am
def Q1k (N:Nat) (m:Xl):Option Int:=
 cond (Q0 .eql m.Type' 4)
 (cond (Q10 .neq m.Name [])
 (cond (Q0 .leq (m.Name.length:Int) 23)
 ((Wy N m.Name).bind fun v4=>
 cond v4
 (some 0)
 (some 6))
 (some 6))
 (some 6))
 (cond (Q0 .eql m.Type' 22)
 (cond (Q0 .leq (m.Name.length:Int) 23)
 ((Wy N m.Name).bind fun v9=>
 cond v9
 (some 0)
 (some 6))
 (some 6))
 (cond (Q0 .eql m.Type' 10)
 ((Wg N m.Name).bind fun v13=>
 cond v13
 (some 0)
 (some 10))
 (cond (Q0 .eql m.Type' 7)
 (cond (Q10 .eql m.Name [])
 (some 0)
 ((Wg N m.Name).bind fun v18=>
 cond v18
 (some 0)
 (some 10)))
 (cond (Q0 .eql m.Type' 26)
 (cond (Q10 .eql m.Name [])
 (some 0)
 ((Wg N m.Name).bind fun v23=>
 cond v23
 (some 0)
 (some 10)))
 (cond (Q0 .eql m.Type' 18)
 (cond (Q0 .neq m.Flags.Type' 0)
 (some 0)
 ((Q0x N m.Name).bind fun v28=>
 cond v28
 (some 0)
 (some 10)))
 (cond (Q0 .eql m.Type' 20)
 (cond (Q0 .neq m.Flags.Type' 0)
 (some 0)
 ((Q0x N m.Name).bind fun v33=>
 cond v33
 (some 0)
 (some 10)))
 (cond (Q0 .eql m.Type' 2)
 (cond (Q0 .leq (m.Name.length:Int) 16)
 (some 0)
 (some 2))
 (some 0))))))))
def Q7h {N} {m} {r} (h:Q1k N m=some r):pU 222 [.agg (Xl.cells m)] (.int .i64 r):=by
 refine Q1 Zh7 ?_;unfold Q1k at h;rw [cX,cY] at h;apply iU h<;>intro h
 ·exact iR h fun h=>iR h fun h=>cP h Ub p1 fun v4 h=>iB h
 apply iU h<;>intro h
 ·exact iR h fun h=>cP h Ub p1 fun v9 h=>iB h
 apply iU h<;>intro h
 ·exact cP h Vj p1 fun v13 h=>iB h
 refine ifO h (fun hc16 h=>?_) (fun hc16 h=>?_)
 ·refine ifT hc16 (iL h fun h=>?_);exact cP h Vj p1 fun v18 h=>iB h
 apply iU h<;>intro h
 ·exact iL h fun h=>cP h Vj p1 fun v23 h=>iB h
 refine ifO h (fun hc26 h=>?_) (fun hc26 h=>?_)
 ·refine ifT hc26 (iL h fun h=>?_);exact cP h Q8v p1 fun v28 h=>iB h
 apply iU h<;>intro h
 ·exact iL h fun h=>cP h Q8v p1 fun v33 h=>iB h
 exact ij
def Q4p (N:Nat) (m:Xl):Option Int:=
 (Q4l N m.Type').bind fun v1=>
 cond (!v1)
 (some 8)
 ((Q68 N m.Type' m.Flags).bind fun v4=>
 cond (!v4)
 (some 7)
 ((Q7z N m.Type').bind fun v7=>
 cond v7
 (cond (Q10 .eql m.Name [])
 (cond (!(((m.Flags.Dup:Bool) == false)&&(((m.Flags.QoS:Int) == 0)&&(((m.Flags.Retain:Bool) == false)&&(((m.Flags.Will:Bool) == false)&&(((m.Flags.Clean:Bool) == false)&&(((m.Flags.Type':Int) == 0)&&true)))))))
 (some 7)
 ((Z1 N (⟨2,m,[],false⟩:Q3)).bind fun v12=>
 cond v12.2.bad
 (some 2)
 (cond (!(((v12.2.m.Type':Int) == m.Type')&&(((v12.2.m.Flags.Dup:Bool) == m.Flags.Dup)&&(((v12.2.m.Flags.QoS:Int) == m.Flags.QoS)&&(((v12.2.m.Flags.Retain:Bool) == m.Flags.Retain)&&(((v12.2.m.Flags.Will:Bool) == m.Flags.Will)&&(((v12.2.m.Flags.Clean:Bool) == m.Flags.Clean)&&(((v12.2.m.Flags.Type':Int) == m.Flags.Type')&&(((v12.2.m.Gateway:Int) == 0)&&(((v12.2.m.Radius:Int) == 0)&&(((v12.2.m.Time:Int) == 0)&&(((v12.2.m.Timed:Bool) == false)&&(((v12.2.m.TopicID:Int) == 0)&&(((v12.2.m.MsgID:Int) == 0)&&(((v12.2.m.Code:Int) == 0)&&(((v12.2.m.Name:List UInt8) == [])&&(((v12.2.m.Data:List UInt8) == [])&&true)))))))))))))))))
 (some 2)
 ((Q0q N m).bind fun v16=>
 cond (!v16)
 (some 2)
 ((Js N m).bind fun v19=>
 cond (Q0 .neq v19 0)
 (some v19)
 ((Q1k N m).bind fun v22=>
 cond (Q0 .neq v22 0)
 (some v22)
 ((Q0u N m).bind fun v25=>
 (Jo N m.Type' (v25.length:Int)).bind fun v27=>
 some v27.2)))))))
 ((Z1 N (⟨2,m,[],false⟩:Q3)).bind fun v29=>
 cond v29.2.bad
 (some 2)
 (cond (!(((v29.2.m.Type':Int) == m.Type')&&(((v29.2.m.Flags.Dup:Bool) == m.Flags.Dup)&&(((v29.2.m.Flags.QoS:Int) == m.Flags.QoS)&&(((v29.2.m.Flags.Retain:Bool) == m.Flags.Retain)&&(((v29.2.m.Flags.Will:Bool) == m.Flags.Will)&&(((v29.2.m.Flags.Clean:Bool) == m.Flags.Clean)&&(((v29.2.m.Flags.Type':Int) == m.Flags.Type')&&(((v29.2.m.Gateway:Int) == 0)&&(((v29.2.m.Radius:Int) == 0)&&(((v29.2.m.Time:Int) == 0)&&(((v29.2.m.Timed:Bool) == false)&&(((v29.2.m.TopicID:Int) == 0)&&(((v29.2.m.MsgID:Int) == 0)&&(((v29.2.m.Code:Int) == 0)&&(((v29.2.m.Name:List UInt8) == [])&&(((v29.2.m.Data:List UInt8) == [])&&true)))))))))))))))))
 (some 2)
 ((Q0q N m).bind fun v33=>
 cond (!v33)
 (some 2)
 ((Js N m).bind fun v36=>
 cond (Q0 .neq v36 0)
 (some v36)
 ((Q1k N m).bind fun v39=>
 cond (Q0 .neq v39 0)
 (some v39)
 ((Q0u N m).bind fun v42=>
 (Jo N m.Type' (v42.length:Int)).bind fun v44=>
 some v44.2)))))))
 ((Z1 N (⟨2,m,[],false⟩:Q3)).bind fun v46=>
 cond v46.2.bad
 (some 2)
 (cond (!(((v46.2.m.Type':Int) == m.Type')&&(((v46.2.m.Flags.Dup:Bool) == m.Flags.Dup)&&(((v46.2.m.Flags.QoS:Int) == m.Flags.QoS)&&(((v46.2.m.Flags.Retain:Bool) == m.Flags.Retain)&&(((v46.2.m.Flags.Will:Bool) == m.Flags.Will)&&(((v46.2.m.Flags.Clean:Bool) == m.Flags.Clean)&&(((v46.2.m.Flags.Type':Int) == m.Flags.Type')&&(((v46.2.m.Gateway:Int) == 0)&&(((v46.2.m.Radius:Int) == 0)&&(((v46.2.m.Time:Int) == 0)&&(((v46.2.m.Timed:Bool) == false)&&(((v46.2.m.TopicID:Int) == 0)&&(((v46.2.m.MsgID:Int) == 0)&&(((v46.2.m.Code:Int) == 0)&&(((v46.2.m.Name:List UInt8) == [])&&(((v46.2.m.Data:List UInt8) == [])&&true)))))))))))))))))
 (some 2)
 ((Q0q N m).bind fun v50=>
 cond (!v50)
 (some 2)
 ((Js N m).bind fun v53=>
 cond (Q0 .neq v53 0)
 (some v53)
 ((Q1k N m).bind fun v56=>
 cond (Q0 .neq v56 0)
 (some v56)
 ((Q0u N m).bind fun v59=>
 (Jo N m.Type' (v59.length:Int)).bind fun v61=>
 some v61.2))))))))
def Qg7 {N} {m} {r} (h:Q4p N m=some r):pU 164 [.agg (Xl.cells m)] (.int .i64 r):=by
 refine Q1 Zhj ?_;unfold Q4p at h;rw [cX,cY] at h;refine cP h Qdm p1 fun v1 h=>iL h fun h=>cP h Qhs (.cons (.p _) (.cons (Ar (.cons (.p _) p5)) .nil)) fun v4 h=>iL h fun h=>cP h Qj0 p1 fun v7 h=>?_;apply iU h<;>intro h
 ·apply iU h<;>intro h
  ·refine iL h fun h=>cG h G5 fun v12 h=>⟨rho [1,3],(.cells (Qfu m ([])) :: .cells (Q12 v12.2 2) :: .cells (Xh (cI .u8) v12.2.out) :: []),.tuple [],⟨(rE rfl <| rN),(hC rfl (rE rfl <| rE rfl <| rE rfl <| rE rfl <| rE rfl <| rE rfl <| rE rfl <| rE rfl <| rE rfl <| rE rfl <| rE rfl <| rE rfl <| rE rfl <| rE rfl <| rE rfl <| rE rfl <| rE rfl <| rE rfl <| rS <| rE rfl <| rN) <| hV lb <| hN),rfl,rfl,(roE rfl <| roE (Q83 _ _ _) <| roN),rfl,(fK rfl rfl <| fR 0 rfl rfl rfl rfl <| fO 2 rfl rfl rfl <| fN),rfl⟩,?_⟩;refine iL h fun h=>iL h fun h=>cP h Q6q (.cons (Ar (f8_ (f2_ (.cons (.p _) p5)))) .nil) fun v16 h=>iL h fun h=>cP h Q4x (.cons (Ar (f8_ (f2_ (.cons (.p _) p5)))) .nil) fun v19 h=>iL h fun h=>cP h Q7h (.cons (Ar (f8_ (f2_ (.cons (.p _) p5)))) .nil) fun v22 h=>iL h fun h=>Qd (cD h Q4u (.cons (Ar (f8_ (f2_ (.cons (.p _) p5)))) .nil) fun v25 h=>?_);refine cD h Q39 p2 fun v27 h=>?_;exact am
  refine cG h G5 fun v29 h=>⟨rho [1,3],(.cells (Qfu m ([])) :: .cells (Q12 v29.2 2) :: .cells (Xh (cI .u8) v29.2.out) :: []),.tuple [],⟨(rE rfl <| rN),(hC rfl (rE rfl <| rE rfl <| rE rfl <| rE rfl <| rE rfl <| rE rfl <| rE rfl <| rE rfl <| rE rfl <| rE rfl <| rE rfl <| rE rfl <| rE rfl <| rE rfl <| rE rfl <| rE rfl <| rE rfl <| rE rfl <| rS <| rE rfl <| rN) <| hV lb <| hN),rfl,rfl,(roE rfl <| roE (Q83 _ _ _) <| roN),rfl,(fK rfl rfl <| fR 0 rfl rfl rfl rfl <| fO 2 rfl rfl rfl <| fN),rfl⟩,?_⟩;refine iL h fun h=>iL h fun h=>cP h Q6q (.cons (Ar (f8_ (f2_ (.cons (.p _) p5)))) .nil) fun v33 h=>iL h fun h=>cP h Q4x (.cons (Ar (f8_ (f2_ (.cons (.p _) p5)))) .nil) fun v36 h=>iL h fun h=>cP h Q7h (.cons (Ar (f8_ (f2_ (.cons (.p _) p5)))) .nil) fun v39 h=>iL h fun h=>Qd (cD h Q4u (.cons (Ar (f8_ (f2_ (.cons (.p _) p5)))) .nil) fun v42 h=>?_);refine cD h Q39 p2 fun v44 h=>?_;exact am
 refine cG h G5 fun v46 h=>⟨rho [1,3],(.cells (Qfu m ([])) :: .cells (Q12 v46.2 2) :: .cells (Xh (cI .u8) v46.2.out) :: []),.tuple [],⟨(rE rfl <| rN),(hC rfl (rE rfl <| rE rfl <| rE rfl <| rE rfl <| rE rfl <| rE rfl <| rE rfl <| rE rfl <| rE rfl <| rE rfl <| rE rfl <| rE rfl <| rE rfl <| rE rfl <| rE rfl <| rE rfl <| rE rfl <| rE rfl <| rS <| rE rfl <| rN) <| hV lb <| hN),rfl,rfl,(roE rfl <| roE (Q83 _ _ _) <| roN),rfl,(fK rfl rfl <| fR 0 rfl rfl rfl rfl <| fO 2 rfl rfl rfl <| fN),rfl⟩,?_⟩;refine iL h fun h=>iL h fun h=>cP h Q6q (.cons (Ar (f8_ (f2_ (.cons (.p _) p5)))) .nil) fun v50 h=>iL h fun h=>cP h Q4x (.cons (Ar (f8_ (f2_ (.cons (.p _) p5)))) .nil) fun v53 h=>iL h fun h=>cP h Q7h (.cons (Ar (f8_ (f2_ (.cons (.p _) p5)))) .nil) fun v56 h=>iL h fun h=>Qd (cD h Q4u (.cons (Ar (f8_ (f2_ (.cons (.p _) p5)))) .nil) fun v59 h=>?_);refine cD h Q39 p2 fun v61 h=>?_;exact am
def Gk (N:Nat) (m:Xl):Option ((List UInt8)×Int):=
 (Q4p N m).bind fun v1=>
 cond (Q0 .neq v1 0)
 (some ([],v1))
 ((Q0u N m).bind fun v4=>
 (Jo N m.Type' (v4.length:Int)).bind fun v6=>
 cond (Q0 .neq v6.2 0)
 (some ([],v6.2))
 (cond (Nat.ble (v6.1.length+v4.length) 4611686018427387904) (some ((v6.1++v4),0)) none))
def Qa8 {N} {m} {r} (h:Gk N m=some r):pU 106 [.agg (Xl.cells m)] (.tuple [.str r.1,.int .i64 r.2]):=by
 refine Q1 Zn2 ?_;unfold Gk at h;rw [cX] at h;refine cP h Qg7 (.cons (Ar (f8_ (f2_ (.cons (.p _) p5)))) .nil) fun v1 h=>iL2 h fun h=>cP h Q4u (.cons (Ar (f8_ (f2_ (.cons (.p _) p5)))) .nil) fun v4 h=>cP h Q39 p2 fun v6 h=>iL2 h fun h=>kU h fun h=>?_;exact aU
def Jc (N:Nat) (h_0:Vc):Option (List UInt8):=
 (Z2 N (wrap .u64 (wrap .i64 (3+(h_0.Node.length:Int)))) 1).bind fun v1=>
 (Z2 N 254 1).bind fun v3=>
 cond (Nat.ble (v1.length+v3.length) 4611686018427387904) ((Z2 N (wrap .u64 h_0.Radius) 1).bind fun v6=>
 cond (Nat.ble ((v1++v3).length+v6.length) 4611686018427387904) (cond (Nat.ble (((v1++v3)++v6).length+h_0.Node.length) 4611686018427387904) (some (((v1++v3)++v6)++h_0.Node)) none) none) none
def Q6w {N} {h_0} {r} (h:Jc N h_0=some r):pU 107 [.agg (Vc.cells h_0)] (.str r):=by
 refine Q1 Zdy ?_;unfold Jc at h;refine Qd (cD h Zl p2 fun v1 h=>?_);refine cD h Zl p2 fun v3 h=>kU h fun h=>cD h Zl p2 fun v6 h=>kU h fun h=>kU h fun h=>?_;exact am
def Q1e (N:Nat) (d:Qb) (l:Yq) (v26:(List UInt8)×Int):Nat->(List UInt8)->Int->Option ((List UInt8)×Int)
 | 0,_,_=>none
 | n+1,out43,s44=>
  cond (Q0 .lss s44 ((Q7 Vc.cells d.Hops).length:Int))
  ((idx d.Hops s44).bind fun y46=>
  (Jc N y46).bind fun v48=>
  cond (Nat.ble (out43.length+v48.length) 4611686018427387904) (Q1e N d l v26 n (out43++v48) (wrap .i64 (s44+1))) none)
  (cond (Q0 .gtr (wrap .i64 ((out43.length:Int)+(v26.1.length:Int))) l.MaxPacket)
  (some ([],4))
  (cond (Nat.ble (out43.length+v26.1.length) 4611686018427387904) (some ((out43++v26.1),0)) none))
def Jg (N:Nat) (d:Qb) (l:Yq) (v53:(List UInt8)×Int):Nat->(List UInt8)->Int->Option ((List UInt8)×Int)
 | 0,_,_=>none
 | n+1,out70,s71=>
  cond (Q0 .lss s71 ((Q7 Vc.cells d.Hops).length:Int))
  ((idx d.Hops s71).bind fun y73=>
  (Jc N y73).bind fun v75=>
  cond (Nat.ble (out70.length+v75.length) 4611686018427387904) (Jg N d l v53 n (out70++v75) (wrap .i64 (s71+1))) none)
  (cond (Q0 .gtr (wrap .i64 ((out70.length:Int)+(v53.1.length:Int))) l.MaxPacket)
  (some ([],4))
  (cond (Nat.ble (out70.length+v53.1.length) 4611686018427387904) (some ((out70++v53.1),0)) none))
def X1 (N:Nat) (d:Qb) (l:Yq):Nat->Int->Option ((List UInt8)×Int)
 | 0,_=>none
 | n+1,s18=>
  cond (Q0 .lss s18 ((Q7 Vc.cells d.Hops).length:Int))
  ((idx d.Hops s18).bind fun y20=>
  (Q27 N y20).bind fun v22=>
  cond v22
  (cond (Q0 .geq s18 0)
  (some ([],2))
  ((Gk N d.Msg).bind fun v26=>
  cond (Q0 .neq v26.2 0)
  (some ([],v26.2))
  (Q1e N d l v26 N [] 0)))
  (X1 N d l n (wrap .i64 (s18+1))))
  ((Gk N d.Msg).bind fun v53=>
  cond (Q0 .neq v53.2 0)
  (some ([],v53.2))
  (Jg N d l v53 N [] 0))
def Q3m (N:Nat) (d:Qb) (l:Yq):Option ((List UInt8)×Int):=
 (Q3s N l).bind fun v1=>
 cond (!v1)
 (some ([],2))
 (cond (Q0 .gtr ((Q7 Vc.cells d.Hops).length:Int) 4)
 (some ([],12))
 (X1 N d l N 0))
def Qex {N} {d} {l} {r} (h:Q3m N d l=some r):pU 66 [.agg (Qb.cells d),.agg (Yq.cells l)] (.tuple [.str r.1,.int .i64 r.2]):=by
 refine Q1 k66 ?_;unfold Q3m at h;rw [cX] at h;refine cP h Qf0 (.cons q2 .nil) fun v1 h=>iL2 h fun h=>iL2 h fun h=>Q8 Zpv (Q8 Zod ?_);refine lpH (τ:=Int) (fun s18=>(.p (.slice 2 (Q7 Vc.cells d.Hops)) :: .p (.func (.func 104) [] [])::a4 (.any::iI ((Q7 Vc.cells d.Hops).length:Int)::iI s18::a8 (a2 ([]))):List AV)) (fun n0 s18=>X1 N d l n0 s18) (0) h fun n0 s18 h=>?_
 first | rw [X1] at h | simp only [X1] at h
 rw [cX] at h;apply iU h<;>intro h
 ·refine xR h fun y20 h=>cP h Qcy (.cons q2 .nil) fun v22 h=>?_;apply iU h<;>intro h
  ·refine iL2 h fun h=>cP h Qa8 (.cons (Ar (f8_ (f2_ (.cons (.p _) p5)))) .nil) fun v26 h=>iL2 h fun h=>lpH (τ:=(List UInt8)×Int) (fun ⟨out43,s44⟩=>(a2 (.any :: .ptr 1 0 :: .any :: .any::iS v26.1 :: .any::iS out43::a16 (a4 (a2 (.p (.slice 2 (Q7 Vc.cells d.Hops))::iI ((Q7 Vc.cells d.Hops).length:Int)::iI s44::a16 (a2 (.any :: [])))))):List AV)) (fun n1 ⟨out43,s44⟩=>Q1e N d l v26 n1 out43 s44) ([],0) h fun n1 ⟨out43,s44⟩ h=>?_
   first | rw [Q1e] at h | simp only [Q1e] at h
   rw [cX] at h;apply iU h<;>intro h
   ·refine xR h fun y46 h=>cP h Q6w (.cons q2 .nil) fun v48 h=>kU h fun h=>?_;show Exists _;exact ⟨(n1,(out43++v48),(wrap .i64 (s44+1))),h,Lc _,(fun i=>i),Z6⟩
   refine iL2 h fun h=>kU h fun h=>?_;exact aU
  show Exists _;exact ⟨(n0,(wrap .i64 (s18+1))),h,Lc _,(fun i=>i),Z6⟩
 refine dF (cP h Qa8 (.cons (Ar (f8_ (f2_ (.cons (.p _) p5)))) .nil) fun v53 h=>?_);refine iL2 h fun h=>lpH (τ:=(List UInt8)×Int) (fun ⟨out70,s71⟩=>(a2 (.any :: .ptr 1 0 :: .any :: .any::iS v53.1 :: .any::iS out70::a16 (a4 (a2 (.p (.slice 2 (Q7 Vc.cells d.Hops))::iI ((Q7 Vc.cells d.Hops).length:Int)::iI s71::a16 (a2 (.any :: [])))))):List AV)) (fun n2 ⟨out70,s71⟩=>Jg N d l v53 n2 out70 s71) ([],0) h fun n2 ⟨out70,s71⟩ h=>?_
 first | rw [Jg] at h | simp only [Jg] at h
 rw [cX] at h;apply iU h<;>intro h
 ·refine xR h fun y73 h=>cP h Q6w (.cons q2 .nil) fun v75 h=>kU h fun h=>?_;show Exists _;exact ⟨(n2,(out70++v75),(wrap .i64 (s71+1))),h,Lc _,(fun i=>i),Z6⟩
 refine iL2 h fun h=>kU h fun h=>?_;exact aU
def Xa (N:Nat) (d:Qb) (l:Yq):Option Int:=
 (Q3m N d l).bind fun v1=>
 some v1.2
def Vr {N} {d} {l} {r} (h:Xa N d l=some r):pU 34 [.agg (Qb.cells d),.agg (Yq.cells l)] (.int .i64 r):=by
 refine Q1 k34 ?_;unfold Xa at h;refine cP h Qex (.cons (Ar (f8_ za)) (.cons q2 .nil)) fun v1 h=>?_;exact am
def We (_N:Nat):Option (Yq):=
 some (⟨1048576,32⟩:Yq)
def Ut {N} {r} (h:We N=some r):pU 35 [] (.agg (Yq.cells r)):=by
 refine Q1 k35 ?_;unfold We at h;obtain rfl:=Qe h;exact q2
def Q24 (N:Nat) (a:Q0r) (id:Int):Option ((List UInt8)×Bool):=
 (Q0t N id).bind fun v1=>
 some (v1.1,v1.2)
def Qag {N} {a} {id} {r} (h:Q24 N a id=some r):pU 574 [.agg (Q0r.cells a),.int .i64 id] (.tuple [.str r.1,.bool r.2]):=by
 refine Q1 Zey ?_;unfold Q24 at h;refine cP h Q2t p1 fun v1 h=>?_;exact aU
def Q0w (N:Nat) (R0:Reg) (client:List UInt8) (d:Qb):Option ((Qg×Int)×Reg):=
 (We N).bind fun v1=>
 (Xa N d v1).bind fun v3=>
 cond (Q0 .neq v3 0)
 (some (((⟨0,0,[],[],0,false,false,0,[],0,[],0,(⟨0,false,false,0,0,[],[],false,0,[],false,[],false,[],false,(⟨[],[],0,false,[]⟩:Q3r),false,0,[],[],[]⟩:Zj),(⟨0,(⟨false,0,false,false,false,0⟩:Qz),0,0,0,false,0,0,0,[],[]⟩:Xl),(⟨0,0,[],[]⟩:X9)⟩:Qg),v3),R0))
 ((Q7g N d.Hops).bind fun v6=>
 cond (Q0 .neq d.Msg.Type' 12)
 (some (((⟨3,2,[],[],0,false,false,0,[],0,v6,0,(⟨0,false,false,0,0,[],[],false,0,[],false,[],false,[],false,(⟨[],[],0,false,[]⟩:Q3r),false,0,[],[],[]⟩:Zj),d.Msg,(⟨0,0,[],[]⟩:X9)⟩:Qg),0),R0))
 (cond (Q0 .eql d.Msg.Flags.Type' 2)
 ((Q24 N (⟨⟩:Q0r) d.Msg.TopicID).bind fun v24=>
 cond (!v24.2)
 (some (((⟨0,0,[],[],0,false,false,0,[],0,[],0,(⟨0,false,false,0,0,[],[],false,0,[],false,[],false,[],false,(⟨[],[],0,false,[]⟩:Q3r),false,0,[],[],[]⟩:Zj),(⟨0,(⟨false,0,false,false,false,0⟩:Qz),0,0,0,false,0,0,0,[],[]⟩:Xl),(⟨0,0,[],[]⟩:X9)⟩:Qg),11),R0))
 (some (((⟨3,1,v24.1,d.Msg.Data,d.Msg.Flags.QoS,d.Msg.Flags.Retain,d.Msg.Flags.Dup,d.Msg.MsgID,[],d.Msg.Flags.Type',v6,0,(⟨0,false,false,0,0,[],[],false,0,[],false,[],false,[],false,(⟨[],[],0,false,[]⟩:Q3r),false,0,[],[],[]⟩:Zj),(⟨0,(⟨false,0,false,false,false,0⟩:Qz),0,0,0,false,0,0,0,[],[]⟩:Xl),(⟨0,0,[],[]⟩:X9)⟩:Qg),0),R0)))
 (cond (Q0 .eql d.Msg.Flags.Type' 1)
 ((Qf3 N R0 client d.Msg.TopicID).bind fun v27=>
 cond (Q0 .neq v27.1.2 0)
 (some (((⟨0,0,[],[],0,false,false,0,[],0,[],0,(⟨0,false,false,0,0,[],[],false,0,[],false,[],false,[],false,(⟨[],[],0,false,[]⟩:Q3r),false,0,[],[],[]⟩:Zj),(⟨0,(⟨false,0,false,false,false,0⟩:Qz),0,0,0,false,0,0,0,[],[]⟩:Xl),(⟨0,0,[],[]⟩:X9)⟩:Qg),11),v27.2))
 ((Q5t N v27.2 client d.Msg.TopicID).bind fun v30=>
 cond (!(v30.1 == true))
 (some (((⟨0,0,[],[],0,false,false,0,[],0,[],0,(⟨0,false,false,0,0,[],[],false,0,[],false,[],false,[],false,(⟨[],[],0,false,[]⟩:Q3r),false,0,[],[],[]⟩:Zj),(⟨0,(⟨false,0,false,false,false,0⟩:Qz),0,0,0,false,0,0,0,[],[]⟩:Xl),(⟨0,0,[],[]⟩:X9)⟩:Qg),11),v30.2))
 (some (((⟨3,1,v27.1.1,d.Msg.Data,d.Msg.Flags.QoS,d.Msg.Flags.Retain,d.Msg.Flags.Dup,d.Msg.MsgID,[],d.Msg.Flags.Type',v6,0,(⟨0,false,false,0,0,[],[],false,0,[],false,[],false,[],false,(⟨[],[],0,false,[]⟩:Q3r),false,0,[],[],[]⟩:Zj),(⟨0,(⟨false,0,false,false,false,0⟩:Qz),0,0,0,false,0,0,0,[],[]⟩:Xl),(⟨0,0,[],[]⟩:X9)⟩:Qg),0),v30.2))))
 ((Qf3 N R0 client d.Msg.TopicID).bind fun v33=>
 cond (Q0 .neq v33.1.2 0)
 (some (((⟨0,0,[],[],0,false,false,0,[],0,[],0,(⟨0,false,false,0,0,[],[],false,0,[],false,[],false,[],false,(⟨[],[],0,false,[]⟩:Q3r),false,0,[],[],[]⟩:Zj),(⟨0,(⟨false,0,false,false,false,0⟩:Qz),0,0,0,false,0,0,0,[],[]⟩:Xl),(⟨0,0,[],[]⟩:X9)⟩:Qg),11),v33.2))
 ((Q5t N v33.2 client d.Msg.TopicID).bind fun v36=>
 cond (!(v36.1 == false))
 (some (((⟨0,0,[],[],0,false,false,0,[],0,[],0,(⟨0,false,false,0,0,[],[],false,0,[],false,[],false,[],false,(⟨[],[],0,false,[]⟩:Q3r),false,0,[],[],[]⟩:Zj),(⟨0,(⟨false,0,false,false,false,0⟩:Qz),0,0,0,false,0,0,0,[],[]⟩:Xl),(⟨0,0,[],[]⟩:X9)⟩:Qg),11),v36.2))
 (some (((⟨3,1,v33.1.1,d.Msg.Data,d.Msg.Flags.QoS,d.Msg.Flags.Retain,d.Msg.Flags.Dup,d.Msg.MsgID,[],d.Msg.Flags.Type',v6,0,(⟨0,false,false,0,0,[],[],false,0,[],false,[],false,[],false,(⟨[],[],0,false,[]⟩:Q3r),false,0,[],[],[]⟩:Zj),(⟨0,(⟨false,0,false,false,false,0⟩:Qz),0,0,0,false,0,0,0,[],[]⟩:Xl),(⟨0,0,[],[]⟩:X9)⟩:Qg),0),v36.2)))))))
def Q61 {N} {R0} {client} {d} {r} (h:Q0w N R0 client d=some r):Q6f Tryz.prog G1 9 R0 [.str client,.agg (Qb.cells d)] (.tuple [.agg (Qg.cells r.1.1),.int .i64 r.1.2]) r.2:=by
 refine Qkb k9 ?_;unfold Q0w at h;rw [cX] at h;refine Qd (cD h Ut p0 fun v1 h=>?_);refine cD h Vr (.cons (Ar (f8_ za)) p1) fun v3 h=>?_;apply iU h<;>intro h
 ·exact bL
 refine cO h Qay (fun v6 => .slice 2 4 0 v6.length) (rE rfl <| rN) fun v6 h=>?_;apply iU h<;>intro h
 ·exact bi
 refine Qms 8 0 rfl rfl rfl rfl rfl (Z1c h (fun hc22 h=>?_) (fun hc22 h=>?_))
 ·refine Q5r (r := .iface 149 (.agg [])) rfl rfl (Q8 k37 (ifT hc22 rfl)) (cP h Qag (.cons (Ar .nil) p1) fun v24 h=>?_);apply iU h<;>intro h
  ·exact bL
  refine Qd (Qd ?_);exact bi
 refine Z1c h (fun hc23 h=>?_) (fun hc23 h=>?_)
 ·refine Q5r (r := .iface 151 (.agg [.ptr 0 0,iS client])) rfl rfl (Q8 k37 (ifF hc22 (ifT hc23 rfl))) (Q8 Zo9 ?_);refine Q8 Zcq (cRg h Qda (b:=1) rfl p2 fun v27 h=>?_);apply iU h<;>intro h
  ·exact bM
  refine cRg h Q64 (b:=9) rfl p2 fun v30 h=>?_;apply iU h<;>intro h
  ·exact bK
  exact bg
 refine Q5r (r := .iface 152 (.agg [.ptr 0 0,iS client])) rfl rfl (Q8 k37 (ifF hc22 (ifF hc23 rfl))) (Q8 Zul ?_);refine Q8 Zcq (cRg h Qda (b:=1) rfl p2 fun v33 h=>?_);apply iU h<;>intro h
 ·exact bM
 refine cRg h Q64 (b:=9) rfl p2 fun v36 h=>?_;apply iU h<;>intro h
 ·exact bK
 exact bg
def Q75 (_N:Nat) (l:Yq):Option Bool:=
 cond (Q0 .geq l.MaxPacket 16)
 (cond (Q0 .leq l.MaxPacket 1048576)
 (cond (Q0 .geq l.MaxDepth 0)
 (some (Q0 .leq l.MaxDepth 32))
 (some false))
 (some false))
 (some false)
def Qg3 {N} {l} {r} (h:Q75 N l=some r):pU 67 [.agg (Yq.cells l)] (.bool r):=by
 refine Q1 k67 ?_;unfold Q75 at h;exact bW
def Q2l:List (Int×Q1n) := [(1,(⟨[109,113,116,116,51]⟩:Q1n)),(2,(⟨[109,113,116,116,53]⟩:Q1n)),(3,(⟨[115,110]⟩:Q1n)),(4,(⟨[97,109,113,112]⟩:Q1n))]
def Qew:pU 168 [] (.pmap (Z8v (fun v => .agg (Q1n.cells v)) Q2l)):=Qf7 Qw1 (N:=2000) (d:=60) (by kernel_rfl)
def Q5a (_N:Nat) (proto:Int):Option Bool:=
 optC (Qbc Q2l proto) (fun m1=>
 some true)
 (some false)
def Qge {N} {proto} {r} (h:Q5a N proto=some r):pU 109 [.int .i64 proto] (.bool r):=by
 refine Q1 Zon ?_;unfold Q5a at h;refine Uo Qew .nil (Z4c h (fun m1 hm2 h=>?_) (fun hm2 h=>?_))
 ·exact am
 exact am
def Gr (_N:Nat) (n_0:Int) (low:Int) (high:Int):Option Bool:=
 cond (Q0 .geq n_0 low)
 (some (Q0 .leq n_0 high))
 (some false)
def Q38 {N} {n_0} {low} {high} {r} (h:Gr N n_0 low high=some r):pU 112 [.int .i64 n_0,.int .i64 low,.int .i64 high] (.bool r):=by
 refine Q1 Zny ?_;unfold Gr at h;exact jh
def Q21 (N:Nat) (name:List UInt8):Option (Int×Bool):=
 cond (Q0 .neq (name.length:Int) 2)
 (some (0,false))
 ((Wg N name).bind fun v2=>
 cond (!v2)
 (some (0,false))
 ((Um N name).bind fun v5=>
 some ((wrap .i64 v5),true)))
def Qaa {N} {name} {r} (h:Q21 N name=some r):pU 169 [.str name] (.tuple [.int .i64 r.1,.bool r.2]):=by
 refine Q1 Znu ?_;unfold Q21 at h;rw [cX] at h;refine iL2 h fun h=>cP h Vj p1 fun v2 h=>iL2 h fun h=>cP h Jn p1 fun v5 h=>?_;exact aU
def Q3x (_N:Nat):Option (Yq):=
 some (⟨1048576,32⟩:Yq)
def Q7n {N} {r} (h:Q3x N=some r):pU 170 [] (.agg (Yq.cells r)):=by
 refine Q1 Zpm ?_;unfold Q3x at h;obtain rfl:=Qe h;exact q2
def Q1p (N:Nat) (e:Qg):Option Bool:=
 (Gr N e.Type' 0 2).bind fun v1=>
 cond (!v1)
 (some false)
 ((Q21 N e.Topic).bind fun v4=>
 cond (Q0 .eql e.Type' 2)
 (cond (!v4.2)
 (some false)
 ((Q3x N).bind fun v8=>
 (Xa N (⟨e.Hops,(⟨23,(⟨false,0,false,false,false,0⟩:Qz),0,0,0,false,0,0,0,[],[]⟩:Xl)⟩:Qb) v8).bind fun v10=>
 some (Q0 .eql v10 0)))
 ((Q3x N).bind fun v12=>
 (Xa N (⟨e.Hops,(⟨23,(⟨false,0,false,false,false,0⟩:Qz),0,0,0,false,0,0,0,[],[]⟩:Xl)⟩:Qb) v12).bind fun v14=>
 some (Q0 .eql v14 0)))
def Qgb {N} {e} {r} (h:Q1p N e=some r):pU 117 [.agg (Qg.cells e)] (.bool r):=by
 refine Q1 Zfh ?_;unfold Q1p at h;rw [cX] at h;refine cP h Q38 p3 fun v1 h=>iL h fun h=>cP h Qaa p1 fun v4 h=>?_;apply iU h<;>intro h
 ·refine iL h fun h=>Qd (cD h Q7n p0 fun v8 h=>?_);refine cD h Vr (.cons (Ar (f8_ za)) p1) fun v10 h=>?_;exact am
 refine Qd (cD h Q7n p0 fun v12 h=>?_);refine cD h Vr (.cons (Ar (f8_ za)) p1) fun v14 h=>?_;exact am
def Q81 (_N:Nat) (p:Zj):Option (Q9b):=
 some (⟨p.Kind,p.QoS,p.ID,p.KeepAlive,p.Code,p.Dup,p.Retain,p.Clean,p.HasUser,p.HasPass,p.HasWill,p.Session,p.Topic,p.Payload,p.Client,p.User,p.Pass⟩:Q9b)
def Qas {N} {p} {r} (h:Q81 N p=some r):pU 225 [.agg (Zj.cells p)] (.agg (Q9b.cells r)):=by
 refine Q1 Zuj ?_;unfold Q81 at h;obtain rfl:=Qe h;exact (Ar (f8_ za))
def Q31 (_N:Nat) (a:Z5) (b:Z5):Option Bool:=
 some (((a.ID:Int) == b.ID)&&(((a.N':Int) == b.N')&&(((a.Text:List UInt8) == b.Text)&&(((a.Value:List UInt8) == b.Value)&&true))))
def Q8q {N} {a} {b} {r} (h:Q31 N a b=some r):pU 287 [.agg (Z5.cells a),.agg (Z5.cells b)] (.bool r):=by
 refine Q1 Zis ?_;unfold Q31 at h;exact am
def V4 (N:Nat) (a:List Z5) (b:List Z5):Nat->Int->Option Bool
 | 0,_=>none
 | n+1,s19=>
  cond (Q0 .lss s19 ((Q7 Z5.cells a).length:Int))
  ((idx a s19).bind fun y21=>
  (idx b s19).bind fun y23=>
  (Q31 N y21 y23).bind fun v25=>
  cond (!v25)
  (some false)
  (V4 N a b n (wrap .i64 (s19+1))))
  (some true)
def Uq (N:Nat) (a:List Z5) (b:List Z5):Option Bool:=
 cond (Q0 .neq ((Q7 Z5.cells a).length:Int) ((Q7 Z5.cells b).length:Int))
 (some false)
 (V4 N a b N 0)
def Q4q {N} {a} {b} {r} (h:Uq N a b=some r):pU 229 [.slice 4 (Q7 Z5.cells a),.slice 4 (Q7 Z5.cells b)] (.bool r):=by
 refine Q1 Ztt ?_;unfold Uq at h;rw [cX] at h;refine Q8 Zdt (iL h fun h=>?_);refine lpH (τ:=Int) (fun s19=>(.any :: .p (.slice 4 (Q7 Z5.cells b)) :: .p (.func (.func 287) [] [])::a8 (a4 (.p (.slice 4 (Q7 Z5.cells a))::iI ((Q7 Z5.cells a).length:Int)::iI s19::a8 (a4 (a2 ([]))))):List AV)) (fun n0 s19=>V4 N a b n0 s19) (0) h fun n0 s19 h=>?_
 first | rw [V4] at h | simp only [V4] at h
 rw [cX] at h;refine iR h fun h=>xR h fun y21 h=>xR h fun y23 h=>cP h Q8q (.cons q4 (.cons q4 .nil)) fun v25 h=>iL h fun h=>?_;exact dE
def Q32 (N:Nat) (a:Q3r) (b:Q3r):Option Bool:=
 cond (Q10 .eql a.Topic b.Topic)
 (cond (Q10 .eql a.Payload b.Payload)
 (cond (Q0 .eql a.QoS b.QoS)
 (cond (a.Retain == b.Retain)
 ((Uq N a.Props b.Props).bind fun v5=>
 some v5)
 (some false))
 (some false))
 (some false))
 (some false)
def Qe7 {N} {a} {b} {r} (h:Q32 N a b=some r):pU 226 [.agg (Q3r.cells a),.agg (Q3r.cells b)] (.bool r):=by
 refine Q1 Zgx ?_;unfold Q32 at h;rw [cX,cY] at h;refine iR h fun h=>iR h fun h=>iR h fun h=>iR h fun h=>cP h Q4q p2 fun v5 h=>?_;exact am
def Q6r (_N:Nat) (a:Int) (b:Int):Option Bool:=
 some (Q0 .eql a b)
def Qcw {N} {a} {b} {r} (h:Q6r N a b=some r):pU 283 [.int .i64 a,.int .i64 b] (.bool r):=by
 refine Q1 Zmx ?_;unfold Q6r at h;rw [cX] at h;exact am
def G0 (N:Nat) (a:List Int) (b:List Int):Nat->Int->Option Bool
 | 0,_=>none
 | n+1,s19=>
  cond (Q0 .lss s19 ((Q7 (cI .i64) a).length:Int))
  ((idx a s19).bind fun y21=>
  (idx b s19).bind fun y23=>
  (Q6r N y21 y23).bind fun v25=>
  cond (!v25)
  (some false)
  (G0 N a b n (wrap .i64 (s19+1))))
  (some true)
def Q2v (N:Nat) (a:List Int) (b:List Int):Option Bool:=
 cond (Q0 .neq ((Q7 (cI .i64) a).length:Int) ((Q7 (cI .i64) b).length:Int))
 (some false)
 (G0 N a b N 0)
def Qe1 {N} {a} {b} {r} (h:Q2v N a b=some r):pU 227 [.slice 1 (Q7 (cI .i64) a),.slice 1 (Q7 (cI .i64) b)] (.bool r):=by
 refine Q1 Zjz ?_;unfold Q2v at h;rw [cX] at h;refine Q8 Zqu (iL h fun h=>?_);refine lpH (τ:=Int) (fun s19=>(.any :: .p (.slice 1 (Q7 (cI .i64) b)) :: .p (.func (.func 283) [] [])::a8 (a4 (.p (.slice 1 (Q7 (cI .i64) a)) :: .p (.int .i64 ((Q7 (cI .i64) a).length:Int))::iI s19::a8 (a4 (a2 ([]))))):List AV)) (fun n0 s19=>G0 N a b n0 s19) (0) h fun n0 s19 h=>?_
 first | rw [G0] at h | simp only [G0] at h
 rw [cX] at h;refine iR h fun h=>xR h fun y21 h=>xR h fun y23 h=>cP h Qcw p2 fun v25 h=>iL h fun h=>?_;exact dE
def Q1v (_N:Nat) (a:Yp) (b:Yp):Option Bool:=
 some (((a.Topic:List UInt8) == b.Topic)&&(((a.QoS:Int) == b.QoS)&&(((a.NoLocal:Bool) == b.NoLocal)&&(((a.AsPublished:Bool) == b.AsPublished)&&(((a.Handling:Int) == b.Handling)&&true)))))
def Q7x {N} {a} {b} {r} (h:Q1v N a b=some r):pU 285 [.agg (Yp.cells a),.agg (Yp.cells b)] (.bool r):=by
 refine Q1 Zkg ?_;unfold Q1v at h;exact am
def Wf (N:Nat) (a:List Yp) (b:List Yp):Nat->Int->Option Bool
 | 0,_=>none
 | n+1,s19=>
  cond (Q0 .lss s19 ((Q7 Yp.cells a).length:Int))
  ((idx a s19).bind fun y21=>
  (idx b s19).bind fun y23=>
  (Q1v N y21 y23).bind fun v25=>
  cond (!v25)
  (some false)
  (Wf N a b n (wrap .i64 (s19+1))))
  (some true)
def J1 (N:Nat) (a:List Yp) (b:List Yp):Option Bool:=
 cond (Q0 .neq ((Q7 Yp.cells a).length:Int) ((Q7 Yp.cells b).length:Int))
 (some false)
 (Wf N a b N 0)
def Q8d {N} {a} {b} {r} (h:J1 N a b=some r):pU 228 [.slice 5 (Q7 Yp.cells a),.slice 5 (Q7 Yp.cells b)] (.bool r):=by
 refine Q1 Zrd ?_;unfold J1 at h;rw [cX] at h;refine Q8 Zg4 (iL h fun h=>?_);refine lpH (τ:=Int) (fun s19=>(.any :: .p (.slice 5 (Q7 Yp.cells b)) :: .p (.func (.func 285) [] [])::a8 (a4 (.p (.slice 5 (Q7 Yp.cells a))::iI ((Q7 Yp.cells a).length:Int)::iI s19::a8 (a4 (a2 ([]))))):List AV)) (fun n0 s19=>Wf N a b n0 s19) (0) h fun n0 s19 h=>?_
 first | rw [Wf] at h | simp only [Wf] at h
 rw [cX] at h;refine iR h fun h=>xR h fun y21 h=>xR h fun y23 h=>cP h Q7x (.cons (Ar p5) (.cons (Ar p5) .nil)) fun v25 h=>iL h fun h=>?_;exact dE
def Q5h (N:Nat) (a:Zj) (b:Zj):Option Bool:=
 (Q81 N a).bind fun v1=>
 (Q81 N b).bind fun v3=>
 cond (((v1.kind:Int) == v3.kind)&&(((v1.qos:Int) == v3.qos)&&(((v1.id:Int) == v3.id)&&(((v1.alive:Int) == v3.alive)&&(((v1.code:Int) == v3.code)&&(((v1.dup:Bool) == v3.dup)&&(((v1.retain:Bool) == v3.retain)&&(((v1.clean:Bool) == v3.clean)&&(((v1.user:Bool) == v3.user)&&(((v1.pass:Bool) == v3.pass)&&(((v1.will:Bool) == v3.will)&&(((v1.again:Bool) == v3.again)&&(((v1.topic:List UInt8) == v3.topic)&&(((v1.payload:List UInt8) == v3.payload)&&(((v1.client:List UInt8) == v3.client)&&(((v1.name:List UInt8) == v3.name)&&(((v1.word:List UInt8) == v3.word)&&true)))))))))))))))))
 ((Q32 N a.Will b.Will).bind fun v6=>
 cond v6
 ((Q2v N a.Codes b.Codes).bind fun v9=>
 cond v9
 ((J1 N a.Filters b.Filters).bind fun v12=>
 cond v12
 ((Uq N a.Props b.Props).bind fun v15=>
 some v15)
 (some false))
 (some false))
 (some false))
 (some false)
def Qch {N} {a} {b} {r} (h:Q5h N a b=some r):pU 171 [.agg (Zj.cells a),.agg (Zj.cells b)] (.bool r):=by
 refine Q1 Zir ?_;unfold Q5h at h;refine Qd ?_;obtain ⟨v1,hv2,h⟩:=Q2h h;refine Q5n (Qas hv2) (.cons (Ar (Vl (f8_ (.cons (.p _) .nil)))) .nil) ?_;obtain ⟨v3,hv4,h⟩:=Q2h h;refine Q5n (Qas hv4) (.cons (Ar (Vl (f8_ (.cons (.p _) .nil)))) .nil) (Qnj (ks := [0,0,0,0,0,2,2,2,2,2,2,2,1,1,1,1,1]) (xs := [.p (.int .i64 v1.kind),.p (.int .i64 v1.qos),.p (.int .i64 v1.id),.p (.int .i64 v1.alive),.p (.int .i64 v1.code),.p (.bool v1.dup),.p (.bool v1.retain),.p (.bool v1.clean),.p (.bool v1.user),.p (.bool v1.pass),.p (.bool v1.will),.p (.bool v1.again),.p (.str v1.topic),.p (.str v1.payload),.p (.str v1.client),.p (.str v1.name),.p (.str v1.word)]) (ys := [.p (.int .i64 v3.kind),.p (.int .i64 v3.qos),.p (.int .i64 v3.id),.p (.int .i64 v3.alive),.p (.int .i64 v3.code),.p (.bool v3.dup),.p (.bool v3.retain),.p (.bool v3.clean),.p (.bool v3.user),.p (.bool v3.pass),.p (.bool v3.will),.p (.bool v3.again),.p (.str v3.topic),.p (.str v3.payload),.p (.str v3.client),.p (.str v3.name),.p (.str v3.word)]) (b:=(((v1.kind:Int) == v3.kind)&&(((v1.qos:Int) == v3.qos)&&(((v1.id:Int) == v3.id)&&(((v1.alive:Int) == v3.alive)&&(((v1.code:Int) == v3.code)&&(((v1.dup:Bool) == v3.dup)&&(((v1.retain:Bool) == v3.retain)&&(((v1.clean:Bool) == v3.clean)&&(((v1.user:Bool) == v3.user)&&(((v1.pass:Bool) == v3.pass)&&(((v1.will:Bool) == v3.will)&&(((v1.again:Bool) == v3.again)&&(((v1.topic:List UInt8) == v3.topic)&&(((v1.payload:List UInt8) == v3.payload)&&(((v1.client:List UInt8) == v3.client)&&(((v1.name:List UInt8) == v3.name)&&(((v1.word:List UInt8) == v3.word)&&true)))))))))))))))))) rfl ?_);refine ifO h (fun hc5 h=>?_) (fun hc5 h=>?_)
 ·obtain ⟨v6,hv7,h⟩:=Q2h h;refine Q5n (Qe7 hv7) (.cons (Ar (f4_ (.cons (.p _) .nil))) (.cons (Ar (f4_ (.cons (.p _) .nil))) .nil)) (ifO h (fun hc8 h=>?_) (fun hc8 h=>?_))
  ·obtain ⟨v9,hv10,h⟩:=Q2h h;refine Q5n (Qe1 hv10) (.cons (.p _) (.cons (.p _) .nil)) (ifO h (fun hc11 h=>?_) (fun hc11 h=>?_))
   ·obtain ⟨v12,hv13,h⟩:=Q2h h;refine Q5n (Q8d hv13) (.cons (.p _) (.cons (.p _) .nil)) (ifO h (fun hc14 h=>?_) (fun hc14 h=>?_))
    ·obtain ⟨v15,hv16,h⟩:=Q2h h;refine Q5n (Q4q hv16) (.cons (.p _) (.cons (.p _) .nil)) ?_;exact d6
    exact d6
   exact d6
  exact d6
 exact d6
def Ug (rz:Q4->Q4->Option Bool) (N:Nat) (a:Q4) (b:Q4):Nat->Int->Option Bool
 | 0,_=>none
 | n+1,s22=>
  cond (Q0 .lss s22 ((Q4.rows a.Items).length:Int))
  ((idx a.Items s22).bind fun y24=>
  (idx b.Items s22).bind fun y26=>
  (rz y24 y26).bind fun v28=>
  cond (!v28)
  (some false)
  (Ug rz N a b n (wrap .i64 (s22+1))))
  (some true)
def Q57 (rz:Q4->Q4->Option Bool) (N:Nat) (a:Q4) (b:Q4):Option Bool:=
 cond (Q0 .neq a.Kind b.Kind)
 (some false)
 (cond (Q0 .neq a.N' b.N')
 (some false)
 (cond (Q10 .neq a.Text b.Text)
 (some false)
 (cond (Q0 .neq ((Q4.rows a.Items).length:Int) ((Q4.rows b.Items).length:Int))
 (some false)
 (Ug rz N a b N 0))))
def Qd5 {rz:Q4->Q4->Option Bool} (hy1:∀ {a} {b} {r},rz a b=some r->pU 176 [.agg (Q4.cells a),.agg (Q4.cells b)] (.bool r)) {N} {a} {b} {r} (h:Q57 rz N a b=some r):pU 176 [.agg (Q4.cells a),.agg (Q4.cells b)] (.bool r):=by
 refine Q1 Zpp ?_;unfold Q57 at h;rw [cX,cY] at h;refine iL h fun h=>iL h fun h=>iL h fun h=>iL h fun h=>lpH (τ:=Int) (fun s22=>(.any :: .any :: .ptr 0 0 :: .ptr 1 0::a16 (a16 (iI ((Q4.rows a.Items).length:Int)::iI s22::a8 (a4 (a2 (.any :: []))))):List AV)) (fun n0 s22=>Ug rz N a b n0 s22) (0) h fun n0 s22 h=>?_
 first | rw [Ug] at h | simp only [Ug] at h
 rw [cX] at h;refine iR h fun h=>Qd (Q4.xR h fun y24 h=>?_);refine Q4.xR h fun y26 h=>cD h hy1 (.cons q4 (.cons q4 .nil)) fun v28 h=>iL h fun h=>?_;exact gH
def Q02:Nat->Q4->Q4->Option Bool
 | 0=>fun _ _=>none
 | N+1=>Q57 (Q02 N) N
def Qd6 {N} {a} {b} {r} (h:Q02 N a b=some r):pU 176 [.agg (Q4.cells a),.agg (Q4.cells b)] (.bool r):=by
 induction N generalizing a b r with
 | zero=>simp [Q02] at h
 | succ N ih=>exact Qd5 (fun h=>ih h) h
def Ua (N:Nat) (a:X9) (b:X9):Nat->Int->Option Bool
 | 0,_=>none
 | n+1,s22=>
  cond (Q0 .lss s22 ((Q4.rows a.Values).length:Int))
  ((idx a.Values s22).bind fun y24=>
  (idx b.Values s22).bind fun y26=>
  (Q02 N y24 y26).bind fun v28=>
  cond (!v28)
  (some false)
  (Ua N a b n (wrap .i64 (s22+1))))
  (some true)
def Gv (N:Nat) (a:X9) (b:X9):Option Bool:=
 cond (Q0 .neq a.Type' b.Type')
 (some false)
 (cond (Q0 .neq a.Channel b.Channel)
 (some false)
 (cond (Q10 .neq a.Ext b.Ext)
 (some false)
 (cond (Q0 .neq ((Q4.rows a.Values).length:Int) ((Q4.rows b.Values).length:Int))
 (some false)
 (Ua N a b N 0))))
def Q86 {N} {a} {b} {r} (h:Gv N a b=some r):pU 126 [.agg (X9.cells a),.agg (X9.cells b)] (.bool r):=by
 refine Q1 Ze2 ?_;unfold Gv at h;rw [cX,cY] at h;refine iL h fun h=>iL h fun h=>iL h fun h=>iL h fun h=>lpH (τ:=Int) (fun s22=>(a2 (.any :: .ptr 1 0::a16 (a16 (.p (.slice 4 (Q4.rows a.Values))::iI ((Q4.rows a.Values).length:Int)::iI s22::a8 (a4 (.any :: []))))):List AV)) (fun n0 s22=>Ua N a b n0 s22) (0) h fun n0 s22 h=>?_
 first | rw [Ua] at h | simp only [Ua] at h
 rw [cX] at h;refine iR h fun h=>Q4.xR h fun y24 h=>Qd (Q4.xR h fun y26 h=>?_);refine cD h Qd6 (.cons q4 (.cons q4 .nil)) fun v28 h=>iL h fun h=>?_;exact gH
def Q1j (N:Nat) (e:Qg):Option Bool:=
 (Q5h N e.Packet (⟨0,false,false,0,0,[],[],false,0,[],false,[],false,[],false,(⟨[],[],0,false,[]⟩:Q3r),false,0,[],[],[]⟩:Zj)).bind fun v1=>
 cond v1
 (cond (((e.Msg.Type':Int) == 0)&&(((e.Msg.Flags.Dup:Bool) == false)&&(((e.Msg.Flags.QoS:Int) == 0)&&(((e.Msg.Flags.Retain:Bool) == false)&&(((e.Msg.Flags.Will:Bool) == false)&&(((e.Msg.Flags.Clean:Bool) == false)&&(((e.Msg.Flags.Type':Int) == 0)&&(((e.Msg.Gateway:Int) == 0)&&(((e.Msg.Radius:Int) == 0)&&(((e.Msg.Time:Int) == 0)&&(((e.Msg.Timed:Bool) == false)&&(((e.Msg.TopicID:Int) == 0)&&(((e.Msg.MsgID:Int) == 0)&&(((e.Msg.Code:Int) == 0)&&(((e.Msg.Name:List UInt8) == [])&&(((e.Msg.Data:List UInt8) == [])&&true))))))))))))))))
 ((Gv N e.Frame (⟨0,0,[],[]⟩:X9)).bind fun v5=>
 some v5)
 (some false))
 (some false)
def Qja {N} {e} {r} (h:Q1j N e=some r):pU 121 [.agg (Qg.cells e)] (.bool r):=by
 refine Q1 Zfn ?_;unfold Q1j at h;refine cP h Qch (.cons zb (.cons (Ar (Vl (f2_ (f1_ (.cons (.nil _) (f2_ (.cons (.nil _) (.cons (.nil _) (.cons (.nil _) .nil))))))))) .nil)) fun v1 h=>iR h fun h=>Qnj (ks := [0,2,0,2,2,2,0,0,0,0,2,0,0,0,1,1]) (xs := [iI e.Msg.Type',.p (.bool e.Msg.Flags.Dup),iI e.Msg.Flags.QoS,.p (.bool e.Msg.Flags.Retain),.p (.bool e.Msg.Flags.Will),.p (.bool e.Msg.Flags.Clean),iI e.Msg.Flags.Type',iI e.Msg.Gateway,iI e.Msg.Radius,iI e.Msg.Time,.p (.bool e.Msg.Timed),iI e.Msg.TopicID,iI e.Msg.MsgID,iI e.Msg.Code,iS e.Msg.Name,iS e.Msg.Data]) (ys := [iI 0,.p (.bool false),iI 0,.p (.bool false),.p (.bool false),.p (.bool false),iI 0,iI 0,iI 0,iI 0,.p (.bool false),iI 0,iI 0,iI 0,iS [],iS []]) (b:=(((e.Msg.Type':Int) == 0)&&(((e.Msg.Flags.Dup:Bool) == false)&&(((e.Msg.Flags.QoS:Int) == 0)&&(((e.Msg.Flags.Retain:Bool) == false)&&(((e.Msg.Flags.Will:Bool) == false)&&(((e.Msg.Flags.Clean:Bool) == false)&&(((e.Msg.Flags.Type':Int) == 0)&&(((e.Msg.Gateway:Int) == 0)&&(((e.Msg.Radius:Int) == 0)&&(((e.Msg.Time:Int) == 0)&&(((e.Msg.Timed:Bool) == false)&&(((e.Msg.TopicID:Int) == 0)&&(((e.Msg.MsgID:Int) == 0)&&(((e.Msg.Code:Int) == 0)&&(((e.Msg.Name:List UInt8) == [])&&(((e.Msg.Data:List UInt8) == [])&&true))))))))))))))))) rfl (iR h fun h=>?_);refine cP h Q86 (.cons q4 (.cons q4n .nil)) fun v5 h=>?_;exact am
def F_prop_rules_tab:List (Int×Qy) := [(1,(⟨1,65544,0,1⟩:Qy)),(2,(⟨3,65544,0,4294967295⟩:Qy)),(3,(⟨5,65544,0,0⟩:Qy)),(8,(⟨5,65544,0,0⟩:Qy)),(9,(⟨6,65544,0,0⟩:Qy)),(11,(⟨4,264,1,268435455⟩:Qy)),(17,(⟨3,16390,0,4294967295⟩:Qy)),(18,(⟨5,4,0,0⟩:Qy)),(19,(⟨2,4,0,65535⟩:Qy)),(21,(⟨5,32774,0,0⟩:Qy)),(22,(⟨6,32774,0,0⟩:Qy)),(23,(⟨1,2,0,1⟩:Qy)),(24,(⟨3,65536,0,4294967295⟩:Qy)),(25,(⟨1,2,0,1⟩:Qy)),(26,(⟨5,4,0,0⟩:Qy)),(28,(⟨5,16388,0,0⟩:Qy)),(31,(⟨5,51956,0,0⟩:Qy)),(33,(⟨2,6,1,65535⟩:Qy)),(34,(⟨2,6,0,65535⟩:Qy)),(35,(⟨2,8,1,65535⟩:Qy)),(36,(⟨1,4,0,1⟩:Qy)),(37,(⟨1,4,0,1⟩:Qy)),(38,(⟨7,118782,0,0⟩:Qy)),(39,(⟨3,6,1,4294967295⟩:Qy)),(40,(⟨1,4,0,1⟩:Qy)),(41,(⟨1,4,0,1⟩:Qy)),(42,(⟨1,4,0,1⟩:Qy))]
def Qhr:pU 230 [] (.pmap (Z8v (fun v => .agg (Qy.cells v)) F_prop_rules_tab)):=Qf7 Qw1 (N:=2000) (d:=60) (by kernel_rfl)
def Q03 (_N:Nat) (r_0:Qy) (kind:Int):Option Bool:=
 cond (Q0 .geq kind 1)
 (cond (Q0 .leq kind 16)
 (cond (decide (0≤(wrap .u64 kind))) (some (Q0 .eql (Q7t .i64 (Qcj .i64 r_0.kinds (wrap .u64 kind)) 1) 1)) none)
 (some false))
 (some false)
def Qd8 {N} {r_0} {kind} {r} (h:Q03 N r_0 kind=some r):pU 288 [.agg (Qy.cells r_0),.int .i64 kind] (.bool r):=by
 refine Q1 Zoe ?_;unfold Q03 at h;rw [cX] at h;refine iR h fun h=>iR h fun h=>kU h fun h=>?_;exact am
def Q0i (_N:Nat) (r_0:Qy) (p:Z5):Option Int:=
 cond (Q10 .neq p.Text [])
 (some 2)
 (cond (Q10 .neq p.Value [])
 (some 2)
 (cond (Q0 .lss p.N' r_0.least)
 (some 9)
 (cond (Q0 .gtr p.N' r_0.most)
 (some 9)
 (some 0))))
def Qb1 {N} {r_0} {p} {r} (h:Q0i N r_0 p=some r):pU 289 [.agg (Qy.cells r_0),.agg (Z5.cells p)] (.int .i64 r):=by
 refine Q1 Zhf ?_;unfold Q0i at h;rw [cX,cY] at h;exact iL h fun h=>iL h fun h=>iL h fun h=>iB h
def Q2z (N:Nat) (r_0:Qy) (kind:Int) (p:Z5):Option Int:=
 (Q03 N r_0 kind).bind fun v1=>
 cond (!v1)
 (some 9)
 (cond (Q0 .leq r_0.shape 4)
 ((Q0i N r_0 p).bind fun v5=>
 some v5)
 (cond (Q0 .neq p.N' 0)
 (some 2)
 (cond (Q10 .neq p.Value [])
 (cond (Q0 .neq r_0.shape 7)
 (some 2)
 (cond (Q0 .eql r_0.shape 6)
 (cond (Q0 .gtr (p.Text.length:Int) 65535)
 (some 2)
 (some 0))
 ((Wy N p.Text).bind fun v12=>
 cond (!v12)
 (some 6)
 ((Wy N p.Value).bind fun v15=>
 cond (!v15)
 (some 6)
 (cond (Q0 .eql p.ID 8)
 ((Wg N p.Text).bind fun v19=>
 cond (!v19)
 (some 9)
 (some 0))
 (some 0))))))
 (cond (Q0 .eql r_0.shape 6)
 (cond (Q0 .gtr (p.Text.length:Int) 65535)
 (some 2)
 (some 0))
 ((Wy N p.Text).bind fun v24=>
 cond (!v24)
 (some 6)
 ((Wy N p.Value).bind fun v27=>
 cond (!v27)
 (some 6)
 (cond (Q0 .eql p.ID 8)
 ((Wg N p.Text).bind fun v31=>
 cond (!v31)
 (some 9)
 (some 0))
 (some 0))))))))
def Qat {N} {r_0} {kind} {p} {r} (h:Q2z N r_0 kind p=some r):pU 231 [.agg (Qy.cells r_0),.int .i64 kind,.agg (Z5.cells p)] (.int .i64 r):=by
 refine Q1 Zfs ?_;unfold Q2z at h;rw [cX,cY] at h;refine cP h Qd8 (.cons q4 p1) fun v1 h=>iL h fun h=>?_;apply iU h<;>intro h
 ·refine cP h Qb1 (.cons q4 (.cons q4 .nil)) fun v5 h=>?_;exact am
 refine iL h fun h=>?_;apply iU h<;>intro h
 ·refine iL h fun h=>?_;apply iU h<;>intro h
  ·exact iB h
  exact cP h Ub p1 fun v12 h=>iL h fun h=>cP h Ub p1 fun v15 h=>iL h fun h=>iR h fun h=>cP h Vj p1 fun v19 h=>iB h
 apply iU h<;>intro h
 ·exact iB h
 exact cP h Ub p1 fun v24 h=>iL h fun h=>cP h Ub p1 fun v27 h=>iL h fun h=>iR h fun h=>cP h Vj p1 fun v31 h=>iB h
def Q49 (_N:Nat) (kind:Int) (id:Int):Option Bool:=
 cond (Q0 .eql id 38)
 (some true)
 (cond (Q0 .eql id 11)
 (some (Q0 .eql kind 3))
 (some false))
def Qbd {N} {kind} {id} {r} (h:Q49 N kind id=some r):pU 290 [.int .i64 kind,.int .i64 id] (.bool r):=by
 refine Q1 Zns ?_;unfold Q49 at h;rw [cX] at h;exact dt
def Q3w (N:Nat) (s_0:List UInt8):Option (List UInt8):=
 (Z2 N (wrap .u64 (s_0.length:Int)) 2).bind fun v1=>
 cond (Nat.ble (v1.length+s_0.length) 4611686018427387904) (some (v1++s_0)) none
def Qcr {N} {s_0} {r} (h:Q3w N s_0=some r):pU 359 [.str s_0] (.str r):=by
 refine Q1 Zf4 ?_;unfold Q3w at h;refine cP h Zl p2 fun v1 h=>kU h fun h=>?_;exact am
def Q25 (N:Nat) (s_0:List UInt8):Option ((List UInt8)×Int):=
 cond (Q0 .gtr (s_0.length:Int) 65535)
 (some ([],2))
 ((Q3w N s_0).bind fun v2=>
 some (v2,0))
def Q7c {N} {s_0} {r} (h:Q25 N s_0=some r):pU 291 [.str s_0] (.tuple [.str r.1,.int .i64 r.2]):=by
 refine Q1 Zsy ?_;unfold Q25 at h;rw [cX] at h;refine iL2 h fun h=>cP h Qcr p1 fun v2 h=>?_;exact aU
def Q6e (_N:Nat) (n_0:Int):Option Bool:=
 cond (Q0 .geq n_0 0)
 (some (Q0 .leq n_0 268435455))
 (some false)
def Qhc {N} {n_0} {r} (h:Q6e N n_0=some r):pU 292 [.int .i64 n_0] (.bool r):=by
 refine Q1 Zr2 ?_;unfold Q6e at h;exact jh
def Jj (N:Nat):Nat->Int->(List Int)->Option ((List UInt8)×Int)
 | 0,_,_=>none
 | n+1,n9,l10=>
  cond (Q0 .geq n9 128)
  (cond (Nat.ble ((l10.length+1+4096) * 1) 17592186044416) (Jj N n (wrap .i64 ((n9:Int).tdiv 128)) (l10 ++ [(orI .u8 (wrap .u8 ((n9:Int).tmod 128)) 128)])) none)
  (cond (Nat.ble ((l10.length+1+4096) * 1) 17592186044416) (some (((l10 ++ [(wrap .u8 n9)]).map fun n=>UInt8.ofNat n.toNat),0)) none)
def Q0z (N:Nat) (n_0:Int):Option ((List UInt8)×Int):=
 (Q6e N n_0).bind fun v1=>
 cond (!v1)
 (some ([],2))
 (Jj N N n_0 [])
def Q5m {N} {n_0} {r} (h:Q0z N n_0=some r):pU 235 [.int .i64 n_0] (.tuple [.str r.1,.int .i64 r.2]):=by
 refine Q1 Zqi ?_;unfold Q0z at h;refine cP h Qhc p1 fun v1 h=>iL2 h fun h=>lpA (τ:=Int×(List Int)) (fun ⟨n9,l10⟩=>(iI n9::a2 (.any :: .slice 1 0 0 l10.length::a16 (a4 ([]))):List AV)) (fun ⟨_,l10⟩=>(.cells (Xh (cI .u8) l10) :: []:List AObj)) (fun n0 ⟨n9,l10⟩=>Jj N n0 n9 l10) (n_0,[]) h fun n0 ⟨n9,l10⟩ h=>?_
 first | rw [Jj] at h | simp only [Jj] at h
 rw [cX] at h;apply iU h<;>intro h
 ·obtain ⟨hk12,h⟩:=Q6a h;refine Q3a (W8 (c:=(cI .u8)) (e:=1) (fun _=>rfl) sd hk12) (Ja (c:=(cI .u8)) [(orI .u8 (wrap .u8 ((n9:Int).tmod 128)) 128)] rfl ?_);show Exists _;exact ⟨(n0,(wrap .i64 ((n9:Int).tdiv 128)),(l10 ++ [(orI .u8 (wrap .u8 ((n9:Int).tmod 128)) 128)])),h,Lc _,(rho [2]),Z6⟩
 obtain ⟨hk13,h⟩:=Q6a h;refine Q3a (W8 (c:=(cI .u8)) (e:=1) (fun _=>rfl) sd hk13) (Ja (c:=(cI .u8)) [(wrap .u8 n9)] rfl ?_);refine Qj1 (l:=(l10 ++ [(wrap .u8 n9)])) (n:=(l10.length+1)) sd ?_;exact aU
def Q1m (N:Nat) (shape:Int) (p:Z5):Option (List UInt8):=
 cond (Q0 .eql shape 1)
 ((Z2 N (wrap .u64 p.N') shape).bind fun v2=>
 some v2)
 (cond (Q0 .eql shape 2)
 ((Z2 N (wrap .u64 p.N') shape).bind fun v5=>
 some v5)
 (cond (Q0 .eql shape 3)
 ((Z2 N (wrap .u64 p.N') 4).bind fun v8=>
 some v8)
 (cond (Q0 .eql shape 4)
 ((Q0z N (wrap .i64 p.N')).bind fun v11=>
 some v11.1)
 ((Q25 N p.Text).bind fun v13=>
 cond (Q0 .neq shape 7)
 (some v13.1)
 ((Q25 N p.Value).bind fun v16=>
 cond (Nat.ble (v13.1.length+v16.1.length) 4611686018427387904) (some (v13.1++v16.1)) none)))))
def Q56 {N} {shape} {p} {r} (h:Q1m N shape p=some r):pU 233 [.int .i64 shape,.agg (Z5.cells p)] (.str r):=by
 refine Q1 Zp3 ?_;unfold Q1m at h;rw [cX] at h;refine ifO h (fun hc1 h=>?_) (fun hc1 h=>?_)
 ·refine ifT hc1 (cP h Zl p2 fun v2 h=>?_);exact am
 apply iU h<;>intro h
 ·refine cP h Zl p2 fun v5 h=>?_;exact am
 apply iU h<;>intro h
 ·refine cP h Zl p2 fun v8 h=>?_;exact am
 apply iU h<;>intro h
 ·refine cP h Q5m p1 fun v11 h=>?_;exact am
 refine cP h Q7c p1 fun v13 h=>iL h fun h=>cP h Q7c p1 fun v16 h=>kU h fun h=>?_;exact am
def Y8 (N:Nat) (kind:Int) (l:List Z5):Nat->Int->(List Int)->(List Int)->Option ((List UInt8)×Int)
 | 0,_,_,_=>none
 | n+1,s107,l108,l109=>
  cond (Q0 .lss s107 ((Q7 Z5.cells l).length:Int))
  ((idx l s107).bind fun y111=>
  optC (Qbc F_prop_rules_tab y111.ID) (fun m113=>
  (Q2z N m113 kind y111).bind fun v115=>
  cond (Q0 .neq v115 0)
  (some ([],v115))
  (cond (decide (0≤y111.ID)&&decide (y111.ID<((64:Nat):Int))) ((idx (l108:List Int) y111.ID).bind fun y118=>
  (idx (l108:List Int) y111.ID).bind fun y121=>
  (idx (((l108:List Int).set (Int.toNat y111.ID) (wrap .i64 (y118+1))):List Int) y111.ID).bind fun y123=>
  cond (Q0 .gtr y123 1)
  ((Q49 N kind y111.ID).bind fun v126=>
  cond (!v126)
  (some ([],9))
  (cond (Nat.ble ((l109.length+1+4096) * 1) 17592186044416) ((Q1m N m113.shape y111).bind fun v130=>
  cond (Nat.beq v130.length 0)
  (Y8 N kind l n (wrap .i64 (s107+1)) ((l108:List Int).set (Int.toNat y111.ID) (wrap .i64 (y118+1))) (l109 ++ [(wrap .u8 y111.ID)]))
  (cond (Nat.ble (((l109.length+1)+v130.length+4096) * 1) 17592186044416) (Y8 N kind l n (wrap .i64 (s107+1)) ((l108:List Int).set (Int.toNat y111.ID) (wrap .i64 (y118+1))) ((l109 ++ [(wrap .u8 y111.ID)])++(v130.map fun b=>(b.toNat:Int)))) none)) none))
  (cond (Nat.ble ((l109.length+1+4096) * 1) 17592186044416) ((Q1m N m113.shape y111).bind fun v135=>
  cond (Nat.beq v135.length 0)
  (Y8 N kind l n (wrap .i64 (s107+1)) ((l108:List Int).set (Int.toNat y111.ID) (wrap .i64 (y118+1))) (l109 ++ [(wrap .u8 y111.ID)]))
  (cond (Nat.ble (((l109.length+1)+v135.length+4096) * 1) 17592186044416) (Y8 N kind l n (wrap .i64 (s107+1)) ((l108:List Int).set (Int.toNat y111.ID) (wrap .i64 (y118+1))) ((l109 ++ [(wrap .u8 y111.ID)])++(v135.map fun b=>(b.toNat:Int)))) none)) none)) none))
  ((Q2z N (⟨0,0,0,0⟩:Qy) kind y111).bind fun v139=>
  cond (Q0 .neq v139 0)
  (some ([],v139))
  (cond (decide (0≤y111.ID)&&decide (y111.ID<((64:Nat):Int))) ((idx (l108:List Int) y111.ID).bind fun y142=>
  (idx (l108:List Int) y111.ID).bind fun y145=>
  (idx (((l108:List Int).set (Int.toNat y111.ID) (wrap .i64 (y142+1))):List Int) y111.ID).bind fun y147=>
  cond (Q0 .gtr y147 1)
  ((Q49 N kind y111.ID).bind fun v150=>
  cond (!v150)
  (some ([],9))
  (cond (Nat.ble ((l109.length+1+4096) * 1) 17592186044416) ((Q1m N 0 y111).bind fun v154=>
  cond (Nat.beq v154.length 0)
  (Y8 N kind l n (wrap .i64 (s107+1)) ((l108:List Int).set (Int.toNat y111.ID) (wrap .i64 (y142+1))) (l109 ++ [(wrap .u8 y111.ID)]))
  (cond (Nat.ble (((l109.length+1)+v154.length+4096) * 1) 17592186044416) (Y8 N kind l n (wrap .i64 (s107+1)) ((l108:List Int).set (Int.toNat y111.ID) (wrap .i64 (y142+1))) ((l109 ++ [(wrap .u8 y111.ID)])++(v154.map fun b=>(b.toNat:Int)))) none)) none))
  (cond (Nat.ble ((l109.length+1+4096) * 1) 17592186044416) ((Q1m N 0 y111).bind fun v159=>
  cond (Nat.beq v159.length 0)
  (Y8 N kind l n (wrap .i64 (s107+1)) ((l108:List Int).set (Int.toNat y111.ID) (wrap .i64 (y142+1))) (l109 ++ [(wrap .u8 y111.ID)]))
  (cond (Nat.ble (((l109.length+1)+v159.length+4096) * 1) 17592186044416) (Y8 N kind l n (wrap .i64 (s107+1)) ((l108:List Int).set (Int.toNat y111.ID) (wrap .i64 (y142+1))) ((l109 ++ [(wrap .u8 y111.ID)])++(v159.map fun b=>(b.toNat:Int)))) none)) none)) none)))
  ((idx (l108:List Int) 22).bind fun y163=>
  cond (Q0 .gtr y163 0)
  ((idx (l108:List Int) 21).bind fun y166=>
  cond (Q0 .eql y166 0)
  (some ([],9))
  ((Q0z N (l109.length:Int)).bind fun v169=>
  cond (Q0 .neq v169.2 0)
  (some ([],4))
  (cond (Nat.ble (v169.1.length+(l109.map fun n=>UInt8.ofNat n.toNat).length) 4611686018427387904) (some ((v169.1++(l109.map fun n=>UInt8.ofNat n.toNat)),0)) none)))
  ((Q0z N (l109.length:Int)).bind fun v173=>
  cond (Q0 .neq v173.2 0)
  (some ([],4))
  (cond (Nat.ble (v173.1.length+(l109.map fun n=>UInt8.ofNat n.toNat).length) 4611686018427387904) (some ((v173.1++(l109.map fun n=>UInt8.ofNat n.toNat)),0)) none)))
def Q6k (N:Nat) (kind:Int) (l:List Z5):Option ((List UInt8)×Int):=
 cond (Q0 .gtr ((Q7 Z5.cells l).length:Int) 1000)
 (some ([],4))
 (Y8 N kind l N 0 [0,0,0,0,0,0,0,0,0,0,0,0,0,0,0,0,0,0,0,0,0,0,0,0,0,0,0,0,0,0,0,0,0,0,0,0,0,0,0,0,0,0,0,0,0,0,0,0,0,0,0,0,0,0,0,0,0,0,0,0,0,0,0,0] [])
def Qj3 {N} {kind} {l} {r} (h:Q6k N kind l=some r):pU 172 [.int .i64 kind,.slice 4 (Q7 Z5.cells l)] (.tuple [.str r.1,.int .i64 r.2]):=by
 refine Q1 Zpr ?_;unfold Q6k at h;rw [cX] at h;refine iL2 h fun h=>Uo Qhr .nil (lpA (τ:=Int×(List Int)×(List Int)) (fun ⟨s107,_,l109⟩=>(iI kind::a4 (.any :: .p (.pmap (Z8v (fun v => .agg (Qy.cells v)) F_prop_rules_tab)) :: .ptr 0 0 :: .slice 1 1 0 l109.length::a8 (a2 (.p (.slice 4 (Q7 Z5.cells l))::iI ((Q7 Z5.cells l).length:Int)::iI s107::a16 (a16 (a8 (a2 (.any :: []))))))):List AV)) (fun ⟨_,l108,l109⟩=>(.cells (Xh (cI .i64) l108) :: .cells (Xh (cI .u8) l109) :: []:List AObj)) (fun n0 ⟨s107,l108,l109⟩=>Y8 N kind l n0 s107 l108 l109) (0,[0,0,0,0,0,0,0,0,0,0,0,0,0,0,0,0,0,0,0,0,0,0,0,0,0,0,0,0,0,0,0,0,0,0,0,0,0,0,0,0,0,0,0,0,0,0,0,0,0,0,0,0,0,0,0,0,0,0,0,0,0,0,0,0],[]) h fun n0 ⟨s107,l108,l109⟩ h=>?_)
 first | rw [Y8] at h | simp only [Y8] at h
 rw [cX] at h;apply iU h<;>intro h
 ·refine xR h fun y111 h=>Z4c h (fun m113 hm114 h=>?_) (fun hm114 h=>?_)
  ·refine cP h Qat (.cons q4 (.cons (.p _) (.cons q4 .nil))) fun v115 h=>iL2 h fun h=>Q8 Zcj (Qd ?_);obtain ⟨hk120,h⟩:=Q6a h;refine Q3a hk120 ?_;obtain ⟨y118,hy119,h⟩:=Q2h h
   refine Qap (c:=(cI .i64)) (e:=1) (fun _=>rfl) hy119 (off:=0) (by decide) aq ?_
   refine Q3a hk120 ?_;obtain ⟨y121,hy122,h⟩:=Q2h h;refine Q3a (Q59 (c:=(cI .i64)) (e:=1) (fun _=>rfl) hy122 (off:=0) (by omega) rfl (by decide)) ?_
   refine Q4o (c:=(cI .i64)) (e:=1) (fun _=>rfl) hy122 (wrap .i64 (y118+1)) (off:=0) aq rfl (by simp) ?_
   refine Q3a hk120 ?_;obtain ⟨y123,hy124,h⟩:=Q2h h
   refine Qap (c:=(cI .i64)) (e:=1) (fun _=>rfl) hy124 (off:=0) (by decide) aq ?_
   apply iU h<;>intro h
   ·refine cP h Qbd p2 fun v126 h=>iL2 h fun h=>Qd ?_;obtain ⟨hk129,h⟩:=Q6a h;refine Q3a (W8 (c:=(cI .u8)) (e:=1) (fun _=>rfl) sd hk129) (Ja (c:=(cI .u8)) [(wrap .u8 y111.ID)] rfl ?_);refine cD h Q56 (.cons (.p _) (.cons q4 .nil)) fun v130 h=>Q85 (b:=v130) ?_;apply iU h<;>intro h
    ·exact cW
    obtain ⟨hk133,h⟩:=Q6a h;refine Q3a (W8 (c:=(cI .u8)) (e:=1) (l:=(l109 ++ [(wrap .u8 y111.ID)])) (fun _=>rfl) sd hk133) (Ja (c:=(cI .u8)) (l:=(l109 ++ [(wrap .u8 y111.ID)])) (v130.map fun b=>(b.toNat:Int)) rfl ?_);show Exists _;exact ⟨(n0,(wrap .i64 (s107+1)),((l108:List Int).set (Int.toNat y111.ID) (wrap .i64 (y118+1))),((l109 ++ [(wrap .u8 y111.ID)])++(v130.map fun b=>(b.toNat:Int)))),h,Lc _,(rho [0,6]),Z6⟩
   refine Qd ?_;obtain ⟨hk134,h⟩:=Q6a h;refine Q3a (W8 (c:=(cI .u8)) (e:=1) (fun _=>rfl) sd hk134) (Ja (c:=(cI .u8)) [(wrap .u8 y111.ID)] rfl ?_);refine cD h Q56 (.cons (.p _) (.cons q4 .nil)) fun v135 h=>Q85 (b:=v135) ?_;apply iU h<;>intro h
   ·exact cW
   obtain ⟨hk138,h⟩:=Q6a h;refine Q3a (W8 (c:=(cI .u8)) (e:=1) (l:=(l109 ++ [(wrap .u8 y111.ID)])) (fun _=>rfl) sd hk138) (Ja (c:=(cI .u8)) (l:=(l109 ++ [(wrap .u8 y111.ID)])) (v135.map fun b=>(b.toNat:Int)) rfl ?_);show Exists _;exact ⟨(n0,(wrap .i64 (s107+1)),((l108:List Int).set (Int.toNat y111.ID) (wrap .i64 (y118+1))),((l109 ++ [(wrap .u8 y111.ID)])++(v135.map fun b=>(b.toNat:Int)))),h,Lc _,(rho [0,6]),Z6⟩
  refine cP h Qat (.cons q4 (.cons (.p _) (.cons q4 .nil))) fun v139 h=>iL2 h fun h=>Q8 Zcj (Qd ?_);obtain ⟨hk144,h⟩:=Q6a h;refine Q3a hk144 ?_;obtain ⟨y142,hy143,h⟩:=Q2h h
  refine Qap (c:=(cI .i64)) (e:=1) (fun _=>rfl) hy143 (off:=0) (by decide) aq ?_
  refine Q3a hk144 ?_;obtain ⟨y145,hy146,h⟩:=Q2h h;refine Q3a (Q59 (c:=(cI .i64)) (e:=1) (fun _=>rfl) hy146 (off:=0) (by omega) rfl (by decide)) ?_
  refine Q4o (c:=(cI .i64)) (e:=1) (fun _=>rfl) hy146 (wrap .i64 (y142+1)) (off:=0) aq rfl (by simp) ?_
  refine Q3a hk144 ?_;obtain ⟨y147,hy148,h⟩:=Q2h h
  refine Qap (c:=(cI .i64)) (e:=1) (fun _=>rfl) hy148 (off:=0) (by decide) aq ?_
  apply iU h<;>intro h
  ·refine cP h Qbd p2 fun v150 h=>iL2 h fun h=>Qd ?_;obtain ⟨hk153,h⟩:=Q6a h;refine Q3a (W8 (c:=(cI .u8)) (e:=1) (fun _=>rfl) sd hk153) (Ja (c:=(cI .u8)) [(wrap .u8 y111.ID)] rfl ?_);refine cD h Q56 (.cons (.p _) (.cons q4 .nil)) fun v154 h=>Q85 (b:=v154) ?_;apply iU h<;>intro h
   ·exact cZ
   obtain ⟨hk157,h⟩:=Q6a h;refine Q3a (W8 (c:=(cI .u8)) (e:=1) (l:=(l109 ++ [(wrap .u8 y111.ID)])) (fun _=>rfl) sd hk157) (Ja (c:=(cI .u8)) (l:=(l109 ++ [(wrap .u8 y111.ID)])) (v154.map fun b=>(b.toNat:Int)) rfl ?_);show Exists _;exact ⟨(n0,(wrap .i64 (s107+1)),((l108:List Int).set (Int.toNat y111.ID) (wrap .i64 (y142+1))),((l109 ++ [(wrap .u8 y111.ID)])++(v154.map fun b=>(b.toNat:Int)))),h,Lc _,(rho [0,6]),Z6⟩
  refine Qd ?_;obtain ⟨hk158,h⟩:=Q6a h;refine Q3a (W8 (c:=(cI .u8)) (e:=1) (fun _=>rfl) sd hk158) (Ja (c:=(cI .u8)) [(wrap .u8 y111.ID)] rfl ?_);refine cD h Q56 (.cons (.p _) (.cons q4 .nil)) fun v159 h=>Q85 (b:=v159) ?_;apply iU h<;>intro h
  ·exact cZ
  obtain ⟨hk162,h⟩:=Q6a h;refine Q3a (W8 (c:=(cI .u8)) (e:=1) (l:=(l109 ++ [(wrap .u8 y111.ID)])) (fun _=>rfl) sd hk162) (Ja (c:=(cI .u8)) (l:=(l109 ++ [(wrap .u8 y111.ID)])) (v159.map fun b=>(b.toNat:Int)) rfl ?_);show Exists _;exact ⟨(n0,(wrap .i64 (s107+1)),((l108:List Int).set (Int.toNat y111.ID) (wrap .i64 (y142+1))),((l109 ++ [(wrap .u8 y111.ID)])++(v159.map fun b=>(b.toNat:Int)))),h,Lc _,(rho [0,6]),Z6⟩
 refine Q8 Zqf ?_;obtain ⟨y163,hy164,h⟩:=Q2h h;refine Qap (c:=(cI .i64)) (e:=1) (n:=1) (j:=22) (fun _=>rfl) hy164 (off:=0) (by decide) rfl ?_;apply iU h<;>intro h
 ·obtain ⟨y166,hy167,h⟩:=Q2h h;refine Qap (c:=(cI .i64)) (e:=1) (n:=1) (j:=21) (fun _=>rfl) hy167 (off:=0) (by decide) rfl (iL2 h fun h=>?_);refine cP h Q5m p1 fun v169 h=>iL2 h fun h=>Qj1 (l:=l109) (n:=l109.length) sd (kU h fun h=>?_);exact aU
 refine cP h Q5m p1 fun v173 h=>iL2 h fun h=>Qj1 (l:=l109) (n:=l109.length) sd (kU h fun h=>?_);exact aU
def Jq (N:Nat) (kind:Int) (l:List Z5):Option Int:=
 (Q6k N kind l).bind fun v1=>
 some v1.2
def Qj9 {N} {kind} {l} {r} (h:Jq N kind l=some r):pU 123 [.int .i64 kind,.slice 4 (Q7 Z5.cells l)] (.int .i64 r):=by
 refine Q1 Zq2 ?_;unfold Jq at h;refine cP h Qj3 p2 fun v1 h=>?_;exact am
def G7 (N:Nat) (e:Qg):Option Int:=
 (Q1j N e).bind fun v71=>
 cond (!v71)
 (some 2)
 ((Jq N 3 e.Props).bind fun v77=>
 cond (Q0 .neq v77 0)
 (some 9)
 (some 0))
def Ga (N:Nat) (e:Qg):Option Int:=
 (Gr N e.Channel 0 65535).bind fun v61=>
 cond (!v61)
 (some 2)
 (cond (Q0 .neq e.Channel 0)
 (cond (Q0 .neq e.Proto 4)
 (some 2)
 (G7 N e))
 (G7 N e))
def Jz (N:Nat) (e:Qg):Option Int:=
 cond (Q0 .eql e.Proto 3)
 ((Q1p N e).bind fun v53=>
 cond (!v53)
 (some 2)
 (Ga N e))
 (cond (Q0 .neq e.Type' 0)
 (some 2)
 (cond (Q0 .gtr ((Q7 Vc.cells e.Hops).length:Int) 0)
 (some 2)
 (Ga N e)))
def Uc (N:Nat) (e:Qg):Option Int:=
 cond (Q0 .gtr ((Q7 Z5.cells e.Props).length:Int) 0)
 (cond (Q0 .neq e.Proto 2)
 (some 2)
 (Jz N e))
 (Jz N e)
def G4 (N:Nat) (e:Qg) (c2:Bool):Option Int:=
 (Gr N e.ID 0 65535).bind fun v32=>
 cond (!v32)
 (some 2)
 (cond (!(c2 == (Q0 .neq e.ID 0)))
 (some 2)
 (cond e.Dup
 (cond (!c2)
 (cond (!(Q0 .eql e.Proto 3))
 (some 2)
 (Uc N e))
 (Uc N e))
 (Uc N e)))
def Uf (N:Nat) (e:Qg) (c2:Bool):Option Int:=
 (Q5a N e.Proto).bind fun v8=>
 cond (!v8)
 (some 2)
 (cond (Q0 .neq e.Kind 1)
 (some 2)
 ((Wg N e.Topic).bind fun v15=>
 cond (!v15)
 (some 10)
 ((Gr N e.QoS 0 2).bind fun v23=>
 cond (!v23)
 (cond (Q0 .eql e.Proto 3)
 (cond (!(Q0 .eql e.QoS (-1)))
 (some 2)
 (G4 N e c2))
 (some 2))
 (G4 N e c2))))
def Gw (N:Nat) (e:Qg):Option Int:=
 cond (Q0 .eql e.QoS 1)
 (Uf N e true)
 (Uf N e (Q0 .eql e.QoS 2))
def Qdk {N} {e} {r} (h:Gw N e=some r):pU 68 [.agg (Qg.cells e)] (.int .i64 r):=by
 refine Q1 k68 ?_;unfold Gw at h;rw [cX] at h;refine jrA (r:=r) (σ:=Bool) (fun _=>(.any :: .ptr 0 0 :: .any :: .ptr 1 0 :: .ptr 2 0::a16 (a16 (a16 (.any :: []))):List AV)) (fun c2=>(.cells (Q5z e ([])) :: .cells (.p (.bool (Ql6 .eql e.Proto 3)) :: []) :: .cells (.p (.bool c2) :: []) :: []:List AObj)) (fun c2=>Uf N e c2) ?_ ?_
 ·exact eG
 rintro c2 h
 unfold Uf at h;rw [cX] at h;refine rdI 13 (rdP ?_);refine dT (Q8 Zu1 ?_);refine cP h Qge p1 fun v8 h=>iL h fun h=>iL h fun h=>rdP (dT ?_);refine Q8 Zi3 (cP h Vj p1 fun v15 h=>?_);refine iL h fun h=>rdJ (r:=r) (x:=G4 N e c2) (a16 (a16 (a8 (a2 (.slice 2 3 0 11::iI 11::iI 3::a8 (.any :: [])))))) ?_ ?_
 ·refine dT (Q8 Zmp ?_);refine cP h Q38 p3 fun v23 h=>?_;apply iU h<;>intro h
  ·refine iR h fun h=>iL h fun h=>?_;exact aY
  exact aY
 intro h;unfold G4 at h;rw [cX] at h;refine rdP (dT ?_);refine Q8 Zfp (cP h Q38 p3 fun v32 h=>?_);refine iL h fun h=>iL h fun h=>rdJ (r:=r) (x:=Uc N e) (a16 (a16 (a8 (a2 (.slice 2 3 0 11::iI 11::iI 5::a8 (.any :: [])))))) ?_ ?_
 ·refine dT (Q8 Zsc ?_);apply iU h<;>intro h
  ·apply iU h<;>intro h
   ·exact gp
   exact aY
  exact aY
 intro h;unfold Uc at h;rw [cX] at h;refine rdJ (r:=r) (x:=Jz N e) (a16 (a16 (a8 (a2 (.slice 2 3 0 11::iI 11::iI 6::a8 (.any :: [])))))) ?_ ?_
 ·refine dT (Q8 Zln ?_);apply iU h<;>intro h
  ·exact gp
  exact aY
 intro h;unfold Jz at h;rw [cX] at h;refine rdJ (r:=r) (x:=Ga N e) (a16 (a16 (a8 (a2 (.slice 2 3 0 11::iI 11::iI 7::a8 (.any :: [])))))) ?_ ?_
 ·refine dT (Q8 Zf9 ?_);refine ifO h (fun hc52 h=>?_) (fun hc52 h=>?_)
  ·refine cP h Qgb (.cons (Ar (Vl (Vl (Vl za)))) .nil) fun v53 h=>iL h fun h=>ifF (Z8q hc52) ?_;exact aY
  refine ifT (Z8p hc52) (iL h fun h=>?_);exact gp
 intro h;unfold Ga at h;rw [cX] at h;refine rdP (dT ?_);refine Q8 Ziz (cP h Q38 p3 fun v61 h=>?_);refine iL h fun h=>rdJ (r:=r) (x:=G7 N e) (a16 (a16 (a8 (a2 (.slice 2 3 0 11::iI 11::iI 9::a8 (.any :: [])))))) ?_ ?_
 ·refine dT (Q8 Zpi ?_);apply iU h<;>intro h
  ·exact gp
  exact aY
 intro h;unfold G7 at h;rw [cX] at h;refine rdP (dT ?_);refine Q8 Zjq (cP h Qja (.cons (Ar (Vl (Vl (Vl za)))) .nil) fun v71 h=>?_);refine iL h fun h=>rdP (dT ?_);refine Q8 Znn (cP h Qj9 p2 fun v77 h=>?_);refine iL h fun h=>rdP (dF ?_);exact am
def Q2b (N:Nat) (a:List Z5) (b:List Z5):Nat->Int->Option Bool
 | 0,_=>none
 | n+1,s15=>
  cond (Q0 .lss s15 ((Q7 Z5.cells a).length:Int))
  ((idx a s15).bind fun y17=>
  (idx b s15).bind fun y19=>
  cond (!(((y17.ID:Int) == y19.ID)&&(((y17.N':Int) == y19.N')&&(((y17.Text:List UInt8) == y19.Text)&&(((y17.Value:List UInt8) == y19.Value)&&true)))))
  (some false)
  (Q2b N a b n (wrap .i64 (s15+1))))
  (some true)
def Q7q (N:Nat) (a:List Z5) (b:List Z5):Option Bool:=
 cond (Q0 .neq ((Q7 Z5.cells a).length:Int) ((Q7 Z5.cells b).length:Int))
 (some false)
 (Q2b N a b N 0)
def Qjp {N} {a} {b} {r} (h:Q7q N a b=some r):pU 173 [.slice 4 (Q7 Z5.cells a),.slice 4 (Q7 Z5.cells b)] (.bool r):=by
 refine Q1 Ze1 ?_;unfold Q7q at h;rw [cX] at h;refine iL h fun h=>lpH (τ:=Int) (fun s15=>(.p (.slice 4 (Q7 Z5.cells a)) :: .p (.slice 4 (Q7 Z5.cells b))::a8 (a2 (iI ((Q7 Z5.cells a).length:Int)::iI s15::a8 (a4 ([])))):List AV)) (fun n0 s15=>Q2b N a b n0 s15) (0) h fun n0 s15 h=>?_
 first | rw [Q2b] at h | simp only [Q2b] at h
 exact de
def Y9 (N:Nat) (s1_0:List Vc) (s2_1:List Vc):Nat->Int->Option Bool
 | 0,_=>none
 | n+1,s15=>
  cond (Q0 .lss s15 ((Q7 Vc.cells s1_0).length:Int))
  ((idx s1_0 s15).bind fun y17=>
  (idx s2_1 s15).bind fun y19=>
  cond (!(((y17.Radius:Int) == y19.Radius)&&(((y17.Node:List UInt8) == y19.Node)&&true)))
  (some false)
  (Y9 N s1_0 s2_1 n (wrap .i64 (s15+1))))
  (some true)
def Xw (N:Nat) (s1_0:List Vc) (s2_1:List Vc):Option Bool:=
 cond (Q0 .neq ((Q7 Vc.cells s1_0).length:Int) ((Q7 Vc.cells s2_1).length:Int))
 (some false)
 (Y9 N s1_0 s2_1 N 0)
def Q4w {N} {s1_0} {s2_1} {r} (h:Xw N s1_0 s2_1=some r):pU 174 [.slice 2 (Q7 Vc.cells s1_0),.slice 2 (Q7 Vc.cells s2_1)] (.bool r):=by
 refine Q1 Zh1 ?_;unfold Xw at h;rw [cX] at h;refine iL h fun h=>lpH (τ:=Int) (fun s15=>(.p (.slice 2 (Q7 Vc.cells s1_0)) :: .p (.slice 2 (Q7 Vc.cells s2_1))::a8 (a2 (iI ((Q7 Vc.cells s1_0).length:Int)::iI s15::a8 (a4 ([])))):List AV)) (fun n0 s15=>Y9 N s1_0 s2_1 n0 s15) (0) h fun n0 s15 h=>?_
 first | rw [Y9] at h | simp only [Y9] at h
 exact de
def Q1o (N:Nat) (a:Qg) (b:Qg):Option Bool:=
 cond (Q0 .neq a.Proto b.Proto)
 (some false)
 (cond (Q0 .neq a.Kind b.Kind)
 (some false)
 (cond (Q10 .neq a.Topic b.Topic)
 (some false)
 (cond (Q10 .neq a.Payload b.Payload)
 (some false)
 (cond (Q0 .neq a.QoS b.QoS)
 (some false)
 (cond (!(a.Retain == b.Retain))
 (some false)
 (cond (!(a.Dup == b.Dup))
 (some false)
 (cond (Q0 .neq a.ID b.ID)
 (some false)
 (cond (Q0 .neq a.Type' b.Type')
 (some false)
 (cond (Q0 .neq a.Channel b.Channel)
 (some false)
 ((Q7q N a.Props b.Props).bind fun v11=>
 cond v11
 ((Xw N a.Hops b.Hops).bind fun v14=>
 cond v14
 ((Q5h N a.Packet b.Packet).bind fun v17=>
 cond v17
 (cond (((a.Msg.Type':Int) == b.Msg.Type')&&(((a.Msg.Flags.Dup:Bool) == b.Msg.Flags.Dup)&&(((a.Msg.Flags.QoS:Int) == b.Msg.Flags.QoS)&&(((a.Msg.Flags.Retain:Bool) == b.Msg.Flags.Retain)&&(((a.Msg.Flags.Will:Bool) == b.Msg.Flags.Will)&&(((a.Msg.Flags.Clean:Bool) == b.Msg.Flags.Clean)&&(((a.Msg.Flags.Type':Int) == b.Msg.Flags.Type')&&(((a.Msg.Gateway:Int) == b.Msg.Gateway)&&(((a.Msg.Radius:Int) == b.Msg.Radius)&&(((a.Msg.Time:Int) == b.Msg.Time)&&(((a.Msg.Timed:Bool) == b.Msg.Timed)&&(((a.Msg.TopicID:Int) == b.Msg.TopicID)&&(((a.Msg.MsgID:Int) == b.Msg.MsgID)&&(((a.Msg.Code:Int) == b.Msg.Code)&&(((a.Msg.Name:List UInt8) == b.Msg.Name)&&(((a.Msg.Data:List UInt8) == b.Msg.Data)&&true))))))))))))))))
 ((Gv N a.Frame b.Frame).bind fun v21=>
 some v21)
 (some false))
 (some false))
 (some false))
 (some false)))))))))))
def Q4t {N} {a} {b} {r} (h:Q1o N a b=some r):pU 124 [.agg (Qg.cells a),.agg (Qg.cells b)] (.bool r):=by
 refine Q1 Zmn ?_;unfold Q1o at h;rw [cX,cY] at h;refine iL h fun h=>iL h fun h=>iL h fun h=>iL h fun h=>iL h fun h=>iL h fun h=>iL h fun h=>iL h fun h=>iL h fun h=>iL h fun h=>cP h Qjp p2 fun v11 h=>iR h fun h=>cP h Q4w p2 fun v14 h=>iR h fun h=>cP h Qch (.cons zb zc) fun v17 h=>iR h fun h=>Qnj (ks := [0,2,0,2,2,2,0,0,0,0,2,0,0,0,1,1]) (xs := [iI a.Msg.Type',.p (.bool a.Msg.Flags.Dup),iI a.Msg.Flags.QoS,.p (.bool a.Msg.Flags.Retain),.p (.bool a.Msg.Flags.Will),.p (.bool a.Msg.Flags.Clean),iI a.Msg.Flags.Type',iI a.Msg.Gateway,iI a.Msg.Radius,iI a.Msg.Time,.p (.bool a.Msg.Timed),iI a.Msg.TopicID,iI a.Msg.MsgID,iI a.Msg.Code,iS a.Msg.Name,iS a.Msg.Data]) (ys := [iI b.Msg.Type',.p (.bool b.Msg.Flags.Dup),iI b.Msg.Flags.QoS,.p (.bool b.Msg.Flags.Retain),.p (.bool b.Msg.Flags.Will),.p (.bool b.Msg.Flags.Clean),iI b.Msg.Flags.Type',iI b.Msg.Gateway,iI b.Msg.Radius,iI b.Msg.Time,.p (.bool b.Msg.Timed),iI b.Msg.TopicID,iI b.Msg.MsgID,iI b.Msg.Code,iS b.Msg.Name,iS b.Msg.Data]) (b:=(((a.Msg.Type':Int) == b.Msg.Type')&&(((a.Msg.Flags.Dup:Bool) == b.Msg.Flags.Dup)&&(((a.Msg.Flags.QoS:Int) == b.Msg.Flags.QoS)&&(((a.Msg.Flags.Retain:Bool) == b.Msg.Flags.Retain)&&(((a.Msg.Flags.Will:Bool) == b.Msg.Flags.Will)&&(((a.Msg.Flags.Clean:Bool) == b.Msg.Flags.Clean)&&(((a.Msg.Flags.Type':Int) == b.Msg.Flags.Type')&&(((a.Msg.Gateway:Int) == b.Msg.Gateway)&&(((a.Msg.Radius:Int) == b.Msg.Radius)&&(((a.Msg.Time:Int) == b.Msg.Time)&&(((a.Msg.Timed:Bool) == b.Msg.Timed)&&(((a.Msg.TopicID:Int) == b.Msg.TopicID)&&(((a.Msg.MsgID:Int) == b.Msg.MsgID)&&(((a.Msg.Code:Int) == b.Msg.Code)&&(((a.Msg.Name:List UInt8) == b.Msg.Name)&&(((a.Msg.Data:List UInt8) == b.Msg.Data)&&true))))))))))))))))) rfl (iR h fun h=>?_);refine cP h Q86 (.cons q4 (.cons q4 .nil)) fun v21 h=>?_;exact am
end
end
end Go.Av
