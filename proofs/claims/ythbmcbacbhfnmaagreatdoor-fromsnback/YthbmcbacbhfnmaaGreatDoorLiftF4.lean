/- Part of FromsnBack: the law returns true; no condition. -/
import Derived.Test.YthbmcbacbhfnmaaGreatDoorLiftF3
set_option linter.all false
open Go.IntKind (wrap)
namespace Go.Av
noncomputable section
open Go.Proofs
set_option maxRecDepth 100000
set_option maxHeartbeats 4000000
attribute [local irreducible] Wz Qq Qaj Qa1 Z03 Qpy Qjw
section
def Yg (N:Nat) (m:Xl) (v1:List Int) (s25:Bool):Option Bool:=
 cond s25
 (some false)
 ((Y0 N v1 3).bind fun v31=>
 (Yy N m.Gateway 255 v31).bind fun v33=>
 cond v33
 ((Y0 N v1 4).bind fun v36=>
 (Yy N m.Radius 255 v36).bind fun v38=>
 cond v38
 ((Y0 N v1 5).bind fun v41=>
 (Yy N m.Code 255 v41).bind fun v43=>
 cond v43
 ((Y0 N v1 6).bind fun v46=>
 (Yy N m.Time 65535 v46).bind fun v48=>
 cond v48
 ((Y0 N v1 7).bind fun v51=>
 (Yy N m.TopicID 65535 v51).bind fun v53=>
 cond v53
 ((Y0 N v1 8).bind fun v56=>
 (Yy N m.MsgID 65535 v56).bind fun v58=>
 cond v58
 ((Y0 N v1 9).bind fun v61=>
 cond v61
 ((Y0 N v1 10).bind fun v64=>
 cond v64
 (cond (Q0 .eql m.Type' 24)
 (some true)
 (some (!m.Timed)))
 (cond (Q10 .eql m.Data [])
 (cond (Q0 .eql m.Type' 24)
 (some true)
 (some (!m.Timed)))
 (some false)))
 (cond (Q10 .eql m.Name [])
 ((Y0 N v1 10).bind fun v71=>
 cond v71
 (cond (Q0 .eql m.Type' 24)
 (some true)
 (some (!m.Timed)))
 (cond (Q10 .eql m.Data [])
 (cond (Q0 .eql m.Type' 24)
 (some true)
 (some (!m.Timed)))
 (some false)))
 (some false)))
 (some false))
 (some false))
 (some false))
 (some false))
 (some false))
 (some false))
def Yh (N:Nat) (m:Xl) (v1:List Int) (zero4:Bool) (any8:Bool):Option Bool:=
 (Y0 N v1 8).bind fun v26=>
 cond v26
 (cond (!any8)
 (Yg N m v1 (!((Q0 .eql m.MsgID 0) == zero4)))
 (Yg N m v1 false))
 (Yg N m v1 false)
def Zv (N:Nat) (m:Xl) (v1:List Int) (zero4:Bool):Option Bool:=
 cond (Q0 .eql m.Type' 11)
 (Yh N m v1 zero4 true)
 (cond (Q0 .eql m.Type' 13)
 (Yh N m v1 zero4 true)
 (Yh N m v1 zero4 (Q0 .eql m.Type' 19)))
def Z7 (N:Nat) (m:Xl):Option Bool:=
 (Vs N m).bind fun v1=>
 cond (Q0 .eql m.Type' 12)
 (Zv N m v1 (Q0 .lss m.Flags.QoS 1))
 (Zv N m v1 false)
def V8 {N} {m} {r} (h:Z7 N m=some r):pU 79 [.agg (Xl.cells m)] (.bool r):=by
 refine Q1 k79 ?_;unfold Z7 at h;rw [cX] at h;refine cP h Q4c (.cons (Ar (f8_ (f2_ (.cons (.p _) p5)))) .nil) fun v1 h=>Uk (σ:=Bool) (fun zero4=>(.any :: .ptr 0 0 :: .any :: .p (.slice 1 (Q7 (cI .i64) v1)) :: .p (.bool zero4)::a16 (a16 (a16 (a16 (a16 (a16 (a8 (a2 ([])))))))):List AV)) (fun _=>(.cells (Qfu m ([])) :: []:List AObj)) (fun zero4=>Zv N m v1 zero4=some r) (fun _ _=>Lh _) ?_ ?_
 ·apply iU h<;>intro h
  ·show Exists _;exact ⟨((Ql6 .lss m.Flags.QoS 1)),h,(fun i=>i),Z6⟩
  exact aA
 rintro zero4 h
 unfold Zv at h;rw [cX] at h;refine Uk (σ:=Bool) (fun any8=>(.any :: .ptr 0 0 :: .any :: .p (.slice 1 (Q7 (cI .i64) v1)) :: .p (.bool zero4) :: .p (.bool any8)::a16 (a16 (a16 (a16 (a16 (a16 (a8 (.any :: []))))))):List AV)) (fun _=>(.cells (Qfu m ([])) :: []:List AObj)) (fun any8=>Yh N m v1 zero4 any8=some r) (fun _ _=>Lh _) ?_ ?_
 ·apply iU h<;>intro h
  ·exact aB
  apply iU h<;>intro h
  ·exact aB
  show Exists _;exact ⟨((Ql6 .eql m.Type' 19)),h,(fun i=>i),Z6⟩
 rintro any8 h
 unfold Yh at h;rw [cX] at h;refine Q6x (Uk (σ:=Bool) (fun s25=>(.any :: .ptr 0 0 :: .any :: .p (.slice 1 (Q7 (cI .i64) v1))::a16 (a16 (a4 (a2 (.p (.bool s25)::a16 (a16 (a16 (a16 (a4 ([]))))))))):List AV)) (fun _=>(.cells (Qfu m ([])) :: []:List AObj)) (fun s25=>Yg N m v1 s25=some r) (fun _ _=>Lh _) ?_ ?_)
 ·refine cP h Yd p2 fun v26 h=>?_;apply iU h<;>intro h
  ·apply iU h<;>intro h
   ·show Exists _;exact ⟨((!((Ql6 .eql m.MsgID 0) == zero4))),h,(fun i=>i),Z6⟩
   exact aA
  exact aA
 rintro s25 h
 unfold Yg at h;rw [cX,cY] at h;refine iL h fun h=>Qd (cD h Yd p2 fun v31 h=>?_);refine cD h V0 p3 fun v33 h=>iR h fun h=>cD h Yd p2 fun v36 h=>cD h V0 p3 fun v38 h=>iR h fun h=>cD h Yd p2 fun v41 h=>cD h V0 p3 fun v43 h=>iR h fun h=>cD h Yd p2 fun v46 h=>cD h V0 p3 fun v48 h=>iR h fun h=>cD h Yd p2 fun v51 h=>cD h V0 p3 fun v53 h=>iR h fun h=>cD h Yd p2 fun v56 h=>cD h V0 p3 fun v58 h=>iR h fun h=>cD h Yd p2 fun v61 h=>?_;apply iU h<;>intro h
 ·refine cD h Yd p2 fun v64 h=>?_;apply iU h<;>intro h
  ·exact iB h
  exact ij
 refine iR h fun h=>cD h Yd p2 fun v71 h=>?_;apply iU h<;>intro h
 ·exact iB h
 exact ij
def Vy (N:Nat) (m:Xl):Option Int:=
 cond (Q0 .eql m.Type' 7)
 ((X7 N m.Type').bind fun v2=>
 cond (!v2)
 (some 8)
 (cond (Q0 .eql m.Type' 254)
 (some 8)
 ((Wx N m.Type' m.Flags).bind fun v6=>
 cond (!v6)
 (some 7)
 (cond (Q10 .eql m.Name [])
 (cond (!(((m.Flags.Dup:Bool) == false)&&(((m.Flags.QoS:Int) == 0)&&(((m.Flags.Retain:Bool) == false)&&(((m.Flags.Will:Bool) == false)&&(((m.Flags.Clean:Bool) == false)&&(((m.Flags.Type':Int) == 0)&&true)))))))
 (some 7)
 ((Z7 N m).bind fun v11=>
 cond (!v11)
 (some 2)
 ((Zk N m).bind fun v14=>
 cond (Q0 .eql v14 0)
 ((Zp N m).bind fun v17=>
 cond (Q0 .eql v17 0)
 (cond (Q0 .gtr (wrap .i64 ((m.Name.length:Int)+(m.Data.length:Int))) 65535)
 (some 4)
 ((Zi N m).bind fun v21=>
 (Zc N m.Type' (v21.length:Int)).bind fun v23=>
 some v23.2))
 (some v17))
 (some v14))))
 ((Z7 N m).bind fun v25=>
 cond (!v25)
 (some 2)
 ((Zk N m).bind fun v28=>
 cond (Q0 .eql v28 0)
 ((Zp N m).bind fun v31=>
 cond (Q0 .eql v31 0)
 (cond (Q0 .gtr (wrap .i64 ((m.Name.length:Int)+(m.Data.length:Int))) 65535)
 (some 4)
 ((Zi N m).bind fun v35=>
 (Zc N m.Type' (v35.length:Int)).bind fun v37=>
 some v37.2))
 (some v31))
 (some v28)))))))
 (cond (Q0 .eql m.Type' 26)
 ((X7 N m.Type').bind fun v40=>
 cond (!v40)
 (some 8)
 (cond (Q0 .eql m.Type' 254)
 (some 8)
 ((Wx N m.Type' m.Flags).bind fun v44=>
 cond (!v44)
 (some 7)
 (cond (Q10 .eql m.Name [])
 (cond (!(((m.Flags.Dup:Bool) == false)&&(((m.Flags.QoS:Int) == 0)&&(((m.Flags.Retain:Bool) == false)&&(((m.Flags.Will:Bool) == false)&&(((m.Flags.Clean:Bool) == false)&&(((m.Flags.Type':Int) == 0)&&true)))))))
 (some 7)
 ((Z7 N m).bind fun v49=>
 cond (!v49)
 (some 2)
 ((Zk N m).bind fun v52=>
 cond (Q0 .eql v52 0)
 ((Zp N m).bind fun v55=>
 cond (Q0 .eql v55 0)
 (cond (Q0 .gtr (wrap .i64 ((m.Name.length:Int)+(m.Data.length:Int))) 65535)
 (some 4)
 ((Zi N m).bind fun v59=>
 (Zc N m.Type' (v59.length:Int)).bind fun v61=>
 some v61.2))
 (some v55))
 (some v52))))
 ((Z7 N m).bind fun v63=>
 cond (!v63)
 (some 2)
 ((Zk N m).bind fun v66=>
 cond (Q0 .eql v66 0)
 ((Zp N m).bind fun v69=>
 cond (Q0 .eql v69 0)
 (cond (Q0 .gtr (wrap .i64 ((m.Name.length:Int)+(m.Data.length:Int))) 65535)
 (some 4)
 ((Zi N m).bind fun v73=>
 (Zc N m.Type' (v73.length:Int)).bind fun v75=>
 some v75.2))
 (some v69))
 (some v66)))))))
 ((X7 N m.Type').bind fun v77=>
 cond (!v77)
 (some 8)
 (cond (Q0 .eql m.Type' 254)
 (some 8)
 ((Wx N m.Type' m.Flags).bind fun v81=>
 cond (!v81)
 (some 7)
 ((Z7 N m).bind fun v84=>
 cond (!v84)
 (some 2)
 ((Zk N m).bind fun v87=>
 cond (Q0 .eql v87 0)
 ((Zp N m).bind fun v90=>
 cond (Q0 .eql v90 0)
 (cond (Q0 .gtr (wrap .i64 ((m.Name.length:Int)+(m.Data.length:Int))) 65535)
 (some 4)
 ((Zi N m).bind fun v94=>
 (Zc N m.Type' (v94.length:Int)).bind fun v96=>
 some v96.2))
 (some v90))
 (some v87)))))))
def Q4a {N} {m} {r} (h:Vy N m=some r):pU 43 [.agg (Xl.cells m)] (.int .i64 r):=by
 refine Q1 k43 ?_;unfold Vy at h;rw [cX,cY] at h;apply iU h<;>intro h
 ·refine cP h G6 p1 fun v2 h=>iL h fun h=>iL h fun h=>cP h Q2d (.cons (.p _) (.cons (Ar (.cons (.p _) p5)) .nil)) fun v6 h=>iL h fun h=>?_;apply iU h<;>intro h
  ·refine iL h fun h=>cP h V8 (.cons (Ar (f8_ (f2_ (.cons (.p _) p5)))) .nil) fun v11 h=>iL h fun h=>cP h U5 (.cons (Ar (f8_ (f2_ (.cons (.p _) p5)))) .nil) fun v14 h=>ifO h (fun hc16 h=>?_) (fun hc16 h=>?_)
   ·refine cP h U9 (.cons (Ar (f8_ (f2_ (.cons (.p _) p5)))) .nil) fun v17 h=>ifO h (fun hc19 h=>?_) (fun hc19 h=>?_)
    ·refine iL h fun h=>ifT hc19 (Qd ?_);refine cD h V3 (.cons (Ar (f8_ (f2_ (.cons (.p _) p5)))) .nil) fun v21 h=>cD h Wr p2 fun v23 h=>?_;exact am
    refine ifF hc19 ?_;exact am
   refine ifF hc16 (ifF hc16 ?_);exact am
  refine cP h V8 (.cons (Ar (f8_ (f2_ (.cons (.p _) p5)))) .nil) fun v25 h=>iL h fun h=>cP h U5 (.cons (Ar (f8_ (f2_ (.cons (.p _) p5)))) .nil) fun v28 h=>ifO h (fun hc30 h=>?_) (fun hc30 h=>?_)
  ·refine cP h U9 (.cons (Ar (f8_ (f2_ (.cons (.p _) p5)))) .nil) fun v31 h=>ifO h (fun hc33 h=>?_) (fun hc33 h=>?_)
   ·refine iL h fun h=>ifT hc33 (Qd ?_);refine cD h V3 (.cons (Ar (f8_ (f2_ (.cons (.p _) p5)))) .nil) fun v35 h=>cD h Wr p2 fun v37 h=>?_;exact am
   refine ifF hc33 ?_;exact am
  refine ifF hc30 (ifF hc30 ?_);exact am
 apply iU h<;>intro h
 ·refine cP h G6 p1 fun v40 h=>iL h fun h=>iL h fun h=>cP h Q2d (.cons (.p _) (.cons (Ar (.cons (.p _) p5)) .nil)) fun v44 h=>iL h fun h=>?_;apply iU h<;>intro h
  ·refine iL h fun h=>cP h V8 (.cons (Ar (f8_ (f2_ (.cons (.p _) p5)))) .nil) fun v49 h=>iL h fun h=>cP h U5 (.cons (Ar (f8_ (f2_ (.cons (.p _) p5)))) .nil) fun v52 h=>ifO h (fun hc54 h=>?_) (fun hc54 h=>?_)
   ·refine cP h U9 (.cons (Ar (f8_ (f2_ (.cons (.p _) p5)))) .nil) fun v55 h=>ifO h (fun hc57 h=>?_) (fun hc57 h=>?_)
    ·refine iL h fun h=>ifT hc57 (Qd ?_);refine cD h V3 (.cons (Ar (f8_ (f2_ (.cons (.p _) p5)))) .nil) fun v59 h=>cD h Wr p2 fun v61 h=>?_;exact am
    refine ifF hc57 ?_;exact am
   refine ifF hc54 (ifF hc54 ?_);exact am
  refine cP h V8 (.cons (Ar (f8_ (f2_ (.cons (.p _) p5)))) .nil) fun v63 h=>iL h fun h=>cP h U5 (.cons (Ar (f8_ (f2_ (.cons (.p _) p5)))) .nil) fun v66 h=>ifO h (fun hc68 h=>?_) (fun hc68 h=>?_)
  ·refine cP h U9 (.cons (Ar (f8_ (f2_ (.cons (.p _) p5)))) .nil) fun v69 h=>ifO h (fun hc71 h=>?_) (fun hc71 h=>?_)
   ·refine iL h fun h=>ifT hc71 (Qd ?_);refine cD h V3 (.cons (Ar (f8_ (f2_ (.cons (.p _) p5)))) .nil) fun v73 h=>cD h Wr p2 fun v75 h=>?_;exact am
   refine ifF hc71 ?_;exact am
  refine ifF hc68 (ifF hc68 ?_);exact am
 refine cP h G6 p1 fun v77 h=>iL h fun h=>iL h fun h=>cP h Q2d (.cons (.p _) (.cons (Ar (.cons (.p _) p5)) .nil)) fun v81 h=>iL h fun h=>cP h V8 (.cons (Ar (f8_ (f2_ (.cons (.p _) p5)))) .nil) fun v84 h=>iL h fun h=>cP h U5 (.cons (Ar (f8_ (f2_ (.cons (.p _) p5)))) .nil) fun v87 h=>ifO h (fun hc89 h=>?_) (fun hc89 h=>?_)
 ·refine cP h U9 (.cons (Ar (f8_ (f2_ (.cons (.p _) p5)))) .nil) fun v90 h=>ifO h (fun hc92 h=>?_) (fun hc92 h=>?_)
  ·refine iL h fun h=>ifT hc92 (Qd ?_);refine cD h V3 (.cons (Ar (f8_ (f2_ (.cons (.p _) p5)))) .nil) fun v94 h=>cD h Wr p2 fun v96 h=>?_;exact am
  refine ifF hc92 ?_;exact am
 refine ifF hc89 (ifF hc89 ?_);exact am
def U1 (N:Nat) (m:Xl):Option ((List UInt8)×Int):=
 (Vy N m).bind fun v1=>
 cond (Q0 .neq v1 0)
 (some ([],v1))
 ((Zi N m).bind fun v4=>
 (Zc N m.Type' (v4.length:Int)).bind fun v6=>
 cond (Nat.ble (v6.1.length+v4.length) 4611686018427387904) (some ((v6.1++v4),0)) none)
def Q93 {N} {m} {r} (h:U1 N m=some r):pU 84 [.agg (Xl.cells m)] (.tuple [.str r.1,.int .i64 r.2]):=by
 refine Q1 k84 ?_;unfold U1 at h;rw [cX] at h;refine cP h Q4a (.cons (Ar (f8_ (f2_ (.cons (.p _) p5)))) .nil) fun v1 h=>iL2 h fun h=>cP h V3 (.cons (Ar (f8_ (f2_ (.cons (.p _) p5)))) .nil) fun v4 h=>cP h Wr p2 fun v6 h=>kU h fun h=>?_;exact aU
def Yb (N:Nat) (d:Qb):Nat->(List UInt8)->Int->Option (List UInt8)
 | 0,_,_=>none
 | n+1,out13,i14=>
  cond (Q0 .lss i14 ((Q7 Vc.cells d.Hops).length:Int))
  ((idx d.Hops i14).bind fun y16=>
  cond (Nat.ble (out13.length + [UInt8.ofNat (wrap .u8 (wrap .i64 ((y16.Node.length:Int)+3))).toNat,UInt8.ofNat (Int.toNat 254),UInt8.ofNat (wrap .u8 y16.Radius).toNat].length) 4611686018427387904) (cond (Nat.ble ((out13 ++ [UInt8.ofNat (wrap .u8 (wrap .i64 ((y16.Node.length:Int)+3))).toNat,UInt8.ofNat (Int.toNat 254),UInt8.ofNat (wrap .u8 y16.Radius).toNat]).length+y16.Node.length) 4611686018427387904) (Yb N d n ((out13 ++ [UInt8.ofNat (wrap .u8 (wrap .i64 ((y16.Node.length:Int)+3))).toNat,UInt8.ofNat (Int.toNat 254),UInt8.ofNat (wrap .u8 y16.Radius).toNat])++y16.Node) (wrap .i64 (i14+1))) none) none)
  ((U1 N d.Msg).bind fun v20=>
  cond (Nat.ble (out13.length+v20.1.length) 4611686018427387904) (some (out13++v20.1)) none)
def Q0o (N:Nat) (d:Qb):Option (List UInt8):=
 Yb N d N [] 0
def Q94 {N} {d} {r} (h:Q0o N d=some r):pU 44 [.agg (Qb.cells d)] (.str r):=by
 refine Q1 k44 ?_;unfold Q0o at h;refine lpH (τ:=(List UInt8)×Int) (fun ⟨out13,i14⟩=>(.any :: .ptr 0 0 :: .any::iS out13::iI i14::a16 (a16 (a4 (a2 (.any :: [])))):List AV)) (fun n0 ⟨out13,i14⟩=>Yb N d n0 out13 i14) ([],0) h fun n0 ⟨out13,i14⟩ h=>?_
 first | rw [Yb] at h | simp only [Yb] at h
 rw [cX] at h;apply iU h<;>intro h
 ·refine xR h fun y16 h=>kU h fun h=>kU h fun h=>?_;show Exists _;exact ⟨(n0,((out13 ++ [UInt8.ofNat (wrap .u8 (wrap .i64 ((y16.Node.length:Int)+3))).toNat,UInt8.ofNat (Int.toNat 254),UInt8.ofNat (wrap .u8 y16.Radius).toNat])++y16.Node),(wrap .i64 (i14+1))),h,Lc _,(fun i=>i),Z6⟩
 refine cP h Q93 (.cons (Ar (f8_ (f2_ (.cons (.p _) p5)))) .nil) fun v20 h=>kU h fun h=>?_;exact am
def Vu (_N:Nat) (l:Yq):Option Bool:=
 cond (Q0 .geq l.MaxPacket 16)
 (cond (Q0 .leq l.MaxPacket 1048576)
 (cond (Q0 .geq l.MaxDepth 0)
 (some (Q0 .leq l.MaxDepth 32))
 (some false))
 (some false))
 (some false)
def Q4b {N} {l} {r} (h:Vu N l=some r):pU 39 [.agg (Yq.cells l)] (.bool r):=by
 refine Q1 k39 ?_;unfold Vu at h;exact bW
def Wp (N:Nat) (d:Qb) (l:Yq):Nat->Int->Option Int
 | 0,_=>none
 | n+1,i18=>
  cond (Q0 .lss i18 ((Q7 Vc.cells d.Hops).length:Int))
  ((idx d.Hops i18).bind fun y20=>
  (Q04 N y20).bind fun v22=>
  cond (!v22)
  (some 2)
  (Wp N d l n (wrap .i64 (i18+1))))
  ((Vy N d.Msg).bind fun v25=>
  cond (Q0 .eql v25 0)
  ((Q0o N d).bind fun v28=>
  cond (Q0 .gtr (v28.length:Int) l.MaxPacket)
  (some 4)
  (some v25))
  (some v25))
def X5 (N:Nat) (d:Qb) (l:Yq):Option Int:=
 (Vu N l).bind fun v1=>
 cond (!v1)
 (some 2)
 (cond (Q0 .gtr ((Q7 Vc.cells d.Hops).length:Int) 4)
 (some 12)
 (Wp N d l N 0))
def Q1b {N} {d} {l} {r} (h:X5 N d l=some r):pU 14 [.agg (Qb.cells d),.agg (Yq.cells l)] (.int .i64 r):=by
 refine Q1 k14 ?_;unfold X5 at h;rw [cX] at h;refine cP h Q4b (.cons q2 .nil) fun v1 h=>iL h fun h=>iL h fun h=>lpH (τ:=Int) (fun i18=>(.any :: .any :: .ptr 0 0 :: .ptr 1 0 :: .any::iI i18::a16 (a16 (a4 ([]))):List AV)) (fun n0 i18=>Wp N d l n0 i18) (0) h fun n0 i18 h=>?_
 first | rw [Wp] at h | simp only [Wp] at h
 rw [cX] at h;apply iU h<;>intro h
 ·refine xR h fun y20 h=>cP h Qal (.cons q2 .nil) fun v22 h=>iL h fun h=>?_;exact gF
 refine cP h Q4a (.cons (Ar (f8_ (f2_ (.cons (.p _) p5)))) .nil) fun v25 h=>Qd (iR h fun h=>?_);exact cD h Q94 (.cons (Ar (f8_ za)) .nil) fun v28 h=>iB h
def Gd (N:Nat) (l:List Vc):Option Bool:=
 (Xs N).bind fun v1=>
 (X5 N (⟨l,(⟨23,(⟨false,0,false,false,false,0⟩:Qz),0,0,0,false,0,0,0,[],[]⟩:Xl)⟩:Qb) v1).bind fun v3=>
 some (Q0 .eql v3 0)
def Qa3 {N} {l} {r} (h:Gd N l=some r):pU 130 [.slice 2 (Q7 Vc.cells l)] (.bool r):=by
 refine Q1 Zho ?_;unfold Gd at h;rw [cX] at h;refine Qd (cD h Q07 p0 fun v1 h=>?_);refine cD h Q1b (.cons (Ar (f8_ za)) p1) fun v3 h=>?_;exact am
def Uh (N:Nat) (e:Qg):Option Bool:=
 cond (Q0 .neq e.Proto 3)
 (cond (Q0 .eql e.Type' 0)
 (some (Q0 .eql ((Q7 Vc.cells e.Hops).length:Int) 0))
 (some false))
 ((Wv N e.Topic).bind fun v3=>
 cond (Q0 .geq e.Type' 0)
 (cond (Q0 .leq e.Type' 2)
 ((Gd N e.Hops).bind fun v7=>
 cond v7
 (cond (Q0 .neq e.Type' 2)
 (some true)
 (some v3.2))
 (some false))
 (some false))
 (some false))
def Qax {N} {e} {r} (h:Uh N e=some r):pU 70 [.agg (Qg.cells e)] (.bool r):=by
 refine Q1 k70 ?_;unfold Uh at h;rw [cX] at h;apply iU h<;>intro h
 ·exact iB h
 exact cP h Q48 p1 fun v3 h=>iR h fun h=>iR h fun h=>cP h Qa3 p1 fun v7 h=>iR h fun h=>iB h
def W4 (rz:Q4->Q4->Option Bool) (N:Nat) (a:Q4) (b:Q4):Nat->Int->Option Bool
 | 0,_=>none
 | n+1,i22=>
  cond (Q0 .lss i22 ((Q4.rows a.Items).length:Int))
  ((idx a.Items i22).bind fun y24=>
  (idx b.Items i22).bind fun y26=>
  (rz y24 y26).bind fun v28=>
  cond (!v28)
  (some false)
  (W4 rz N a b n (wrap .i64 (i22+1))))
  (some true)
def Q13 (rz:Q4->Q4->Option Bool) (N:Nat) (a:Q4) (b:Q4):Option Bool:=
 cond (Q0 .neq a.Kind b.Kind)
 (some false)
 (cond (Q0 .neq a.N' b.N')
 (some false)
 (cond (Q10 .neq a.Text b.Text)
 (some false)
 (cond (Q0 .neq ((Q4.rows a.Items).length:Int) ((Q4.rows b.Items).length:Int))
 (some false)
 (W4 rz N a b N 0))))
def Q9s {rz:Q4->Q4->Option Bool} (hy1:∀ {a} {b} {r},rz a b=some r->pU 87 [.agg (Q4.cells a),.agg (Q4.cells b)] (.bool r)) {N} {a} {b} {r} (h:Q13 rz N a b=some r):pU 87 [.agg (Q4.cells a),.agg (Q4.cells b)] (.bool r):=by
 refine Q1 k87 ?_;unfold Q13 at h;rw [cX,cY] at h;refine iL h fun h=>iL h fun h=>iL h fun h=>iL h fun h=>lpH (τ:=Int) (fun i22=>(.any :: .any :: .ptr 0 0 :: .ptr 1 0 :: .any::iI i22::a16 (a16 (a8 (a4 (a2 (.any :: []))))):List AV)) (fun n0 i22=>W4 rz N a b n0 i22) (0) h fun n0 i22 h=>?_
 first | rw [W4] at h | simp only [W4] at h
 rw [cX] at h;refine iR h fun h=>Qd (Q4.xR h fun y24 h=>?_);refine Q4.xR h fun y26 h=>cD h hy1 (.cons q4 (.cons q4 .nil)) fun v28 h=>iL h fun h=>?_;exact gG
def Va:Nat->Q4->Q4->Option Bool
 | 0=>fun _ _=>none
 | N+1=>Q13 (Va N) N
def Q9x {N} {a} {b} {r} (h:Va N a b=some r):pU 87 [.agg (Q4.cells a),.agg (Q4.cells b)] (.bool r):=by
 induction N generalizing a b r with
 | zero=>simp [Va] at h
 | succ N ih=>exact Q9s (fun h=>ih h) h
def W9 (N:Nat) (a:X9) (b:X9):Nat->Int->Option Bool
 | 0,_=>none
 | n+1,i22=>
  cond (Q0 .lss i22 ((Q4.rows a.Values).length:Int))
  ((idx a.Values i22).bind fun y24=>
  (idx b.Values i22).bind fun y26=>
  (Va N y24 y26).bind fun v28=>
  cond (!v28)
  (some false)
  (W9 N a b n (wrap .i64 (i22+1))))
  (some true)
def Uv (N:Nat) (a:X9) (b:X9):Option Bool:=
 cond (Q0 .neq a.Type' b.Type')
 (some false)
 (cond (Q0 .neq a.Channel b.Channel)
 (some false)
 (cond (Q10 .neq a.Ext b.Ext)
 (some false)
 (cond (Q0 .neq ((Q4.rows a.Values).length:Int) ((Q4.rows b.Values).length:Int))
 (some false)
 (W9 N a b N 0))))
def Q54 {N} {a} {b} {r} (h:Uv N a b=some r):pU 48 [.agg (X9.cells a),.agg (X9.cells b)] (.bool r):=by
 refine Q1 k48 ?_;unfold Uv at h;rw [cX,cY] at h;refine iL h fun h=>iL h fun h=>iL h fun h=>iL h fun h=>lpH (τ:=Int) (fun i22=>(.any :: .any :: .ptr 0 0 :: .ptr 1 0 :: .any::iI i22::a16 (a16 (a8 (a4 (a2 (.any :: []))))):List AV)) (fun n0 i22=>W9 N a b n0 i22) (0) h fun n0 i22 h=>?_
 first | rw [W9] at h | simp only [W9] at h
 rw [cX] at h;refine iR h fun h=>Qd (Q4.xR h fun y24 h=>?_);refine Q4.xR h fun y26 h=>cD h Q9x (.cons q4 (.cons q4 .nil)) fun v28 h=>iL h fun h=>?_;exact gG
def V2 (N:Nat) (a:List Int) (b:List Int):Nat->Int->Option Bool
 | 0,_=>none
 | n+1,i17=>
  cond (Q0 .lss i17 ((Q7 (cI .i64) a).length:Int))
  ((idx a i17).bind fun y19=>
  (idx b i17).bind fun y21=>
  cond (Q0 .neq y19 y21)
  (some false)
  (V2 N a b n (wrap .i64 (i17+1))))
  (some true)
def Ge (N:Nat) (a:List Int) (b:List Int):Option Bool:=
 cond (Q0 .neq ((Q7 (cI .i64) a).length:Int) ((Q7 (cI .i64) b).length:Int))
 (some false)
 (V2 N a b N 0)
def Q9g {N} {a} {b} {r} (h:Ge N a b=some r):pU 85 [.slice 1 (Q7 (cI .i64) a),.slice 1 (Q7 (cI .i64) b)] (.bool r):=by
 refine Q1 k85 ?_;unfold Ge at h;rw [cX] at h;refine iL h fun h=>lpH (τ:=Int) (fun i17=>(.p (.slice 1 (Q7 (cI .i64) a)) :: .p (.slice 1 (Q7 (cI .i64) b))::a2 (.any::iI i17::a16 (a4 ([]))):List AV)) (fun n0 i17=>V2 N a b n0 i17) (0) h fun n0 i17 h=>?_
 first | rw [V2] at h | simp only [V2] at h
 exact gv
def V1 (N:Nat) (a:List Z5) (b:List Z5):Nat->Int->Option Bool
 | 0,_=>none
 | n+1,i17=>
  cond (Q0 .lss i17 ((Q7 Z5.cells a).length:Int))
  ((idx a i17).bind fun y19=>
  (idx b i17).bind fun y21=>
  cond (!(((y19.ID:Int) == y21.ID)&&(((y19.N':Int) == y21.N')&&(((y19.Text:List UInt8) == y21.Text)&&(((y19.Value:List UInt8) == y21.Value)&&true)))))
  (some false)
  (V1 N a b n (wrap .i64 (i17+1))))
  (some true)
def Vb (N:Nat) (a:List Z5) (b:List Z5):Option Bool:=
 cond (Q0 .neq ((Q7 Z5.cells a).length:Int) ((Q7 Z5.cells b).length:Int))
 (some false)
 (V1 N a b N 0)
def Q20 {N} {a} {b} {r} (h:Vb N a b=some r):pU 45 [.slice 4 (Q7 Z5.cells a),.slice 4 (Q7 Z5.cells b)] (.bool r):=by
 refine Q1 k45 ?_;unfold Vb at h;rw [cX] at h;refine iL h fun h=>lpH (τ:=Int) (fun i17=>(.p (.slice 4 (Q7 Z5.cells a)) :: .p (.slice 4 (Q7 Z5.cells b))::a2 (.any::iI i17::a16 (a4 ([]))):List AV)) (fun n0 i17=>V1 N a b n0 i17) (0) h fun n0 i17 h=>?_
 first | rw [V1] at h | simp only [V1] at h
 exact gv
def Xy (N:Nat) (a:List Yp) (b:List Yp):Nat->Int->Option Bool
 | 0,_=>none
 | n+1,i17=>
  cond (Q0 .lss i17 ((Q7 Yp.cells a).length:Int))
  ((idx a i17).bind fun y19=>
  (idx b i17).bind fun y21=>
  cond (!(((y19.Topic:List UInt8) == y21.Topic)&&(((y19.QoS:Int) == y21.QoS)&&(((y19.NoLocal:Bool) == y21.NoLocal)&&(((y19.AsPublished:Bool) == y21.AsPublished)&&(((y19.Handling:Int) == y21.Handling)&&true))))))
  (some false)
  (Xy N a b n (wrap .i64 (i17+1))))
  (some true)
def Ul (N:Nat) (a:List Yp) (b:List Yp):Option Bool:=
 cond (Q0 .neq ((Q7 Yp.cells a).length:Int) ((Q7 Yp.cells b).length:Int))
 (some false)
 (Xy N a b N 0)
def Q7u {N} {a} {b} {r} (h:Ul N a b=some r):pU 86 [.slice 5 (Q7 Yp.cells a),.slice 5 (Q7 Yp.cells b)] (.bool r):=by
 refine Q1 k86 ?_;unfold Ul at h;rw [cX] at h;refine iL h fun h=>lpH (τ:=Int) (fun i17=>(.p (.slice 5 (Q7 Yp.cells a)) :: .p (.slice 5 (Q7 Yp.cells b))::a2 (.any::iI i17::a16 (a4 ([]))):List AV)) (fun n0 i17=>Xy N a b n0 i17) (0) h fun n0 i17 h=>?_
 first | rw [Xy] at h | simp only [Xy] at h
 exact gv
def Uu (N:Nat) (a:Zj) (b:Zj):Option Bool:=
 cond (Q10 .neq a.Will.Topic b.Will.Topic)
 (some false)
 (cond (Q10 .neq a.Will.Payload b.Will.Payload)
 (some false)
 (cond (Q0 .neq a.Will.QoS b.Will.QoS)
 (some false)
 (cond (!(a.Will.Retain == b.Will.Retain))
 (some false)
 ((Vb N a.Will.Props b.Will.Props).bind fun v5=>
 cond (!v5)
 (some false)
 (cond (Q0 .neq a.Kind b.Kind)
 (some false)
 (cond (!(a.Dup == b.Dup))
 (some false)
 (cond (!(a.Retain == b.Retain))
 (some false)
 (cond (Q0 .neq a.QoS b.QoS)
 (some false)
 (cond (Q0 .neq a.ID b.ID)
 (some false)
 (cond (Q10 .neq a.Topic b.Topic)
 (some false)
 (cond (Q10 .neq a.Payload b.Payload)
 (some false)
 (cond (!(a.Clean == b.Clean))
 (some false)
 (cond (Q0 .neq a.KeepAlive b.KeepAlive)
 (some false)
 (cond (Q10 .neq a.Client b.Client)
 (some false)
 (cond (!(a.HasUser == b.HasUser))
 (some false)
 (cond (Q10 .neq a.User b.User)
 (some false)
 (cond (!(a.HasPass == b.HasPass))
 (some false)
 (cond (Q10 .neq a.Pass b.Pass)
 (some false)
 (cond (!(a.HasWill == b.HasWill))
 (some false)
 (cond (!(a.Session == b.Session))
 (some false)
 (cond (Q0 .neq a.Code b.Code)
 (some false)
 ((Ge N a.Codes b.Codes).bind fun v25=>
 cond v25
 ((Ul N a.Filters b.Filters).bind fun v28=>
 cond v28
 ((Vb N a.Props b.Props).bind fun v31=>
 some v31)
 (some false))
 (some false)))))))))))))))))))))))
def Q4s {N} {a} {b} {r} (h:Uu N a b=some r):pU 47 [.agg (Zj.cells a),.agg (Zj.cells b)] (.bool r):=by
 refine Q1 k47 ?_;unfold Uu at h;rw [cX,cY] at h;refine Qd (iL h fun h=>?_);refine iL h fun h=>iL h fun h=>iL h fun h=>cP h Q20 p2 fun v5 h=>iL h fun h=>iL h fun h=>iL h fun h=>iL h fun h=>iL h fun h=>iL h fun h=>iL h fun h=>iL h fun h=>iL h fun h=>iL h fun h=>iL h fun h=>iL h fun h=>iL h fun h=>iL h fun h=>iL h fun h=>iL h fun h=>iL h fun h=>iL h fun h=>cP h Q9g p2 fun v25 h=>iR h fun h=>cP h Q7u p2 fun v28 h=>iR h fun h=>cP h Q20 p2 fun v31 h=>?_;exact am
def Yn (N:Nat) (e:Qg):Option Bool:=
 (Uu N e.Packet (⟨0,false,false,0,0,[],[],false,0,[],false,[],false,[],false,(⟨[],[],0,false,[]⟩:Q3r),false,0,[],[],[]⟩:Zj)).bind fun v1=>
 cond v1
 (cond (((e.Msg.Type':Int) == 0)&&(((e.Msg.Flags.Dup:Bool) == false)&&(((e.Msg.Flags.QoS:Int) == 0)&&(((e.Msg.Flags.Retain:Bool) == false)&&(((e.Msg.Flags.Will:Bool) == false)&&(((e.Msg.Flags.Clean:Bool) == false)&&(((e.Msg.Flags.Type':Int) == 0)&&(((e.Msg.Gateway:Int) == 0)&&(((e.Msg.Radius:Int) == 0)&&(((e.Msg.Time:Int) == 0)&&(((e.Msg.Timed:Bool) == false)&&(((e.Msg.TopicID:Int) == 0)&&(((e.Msg.MsgID:Int) == 0)&&(((e.Msg.Code:Int) == 0)&&(((e.Msg.Name:List UInt8) == [])&&(((e.Msg.Data:List UInt8) == [])&&true))))))))))))))))
 ((Uv N e.Frame (⟨0,0,[],[]⟩:X9)).bind fun v5=>
 some v5)
 (some false))
 (some false)
def Ud {N} {e} {r} (h:Yn N e=some r):pU 71 [.agg (Qg.cells e)] (.bool r):=by
 refine Q1 k71 ?_;unfold Yn at h;refine cP h Q4s (.cons zb (.cons (Ar (Vl (f2_ (f1_ (.cons (.nil _) (f2_ (.cons (.nil _) (.cons (.nil _) (.cons (.nil _) .nil))))))))) .nil)) fun v1 h=>iR h fun h=>Qnj (ks := [0,2,0,2,2,2,0,0,0,0,2,0,0,0,1,1]) (xs := [iI e.Msg.Type',.p (.bool e.Msg.Flags.Dup),iI e.Msg.Flags.QoS,.p (.bool e.Msg.Flags.Retain),.p (.bool e.Msg.Flags.Will),.p (.bool e.Msg.Flags.Clean),iI e.Msg.Flags.Type',iI e.Msg.Gateway,iI e.Msg.Radius,iI e.Msg.Time,.p (.bool e.Msg.Timed),iI e.Msg.TopicID,iI e.Msg.MsgID,iI e.Msg.Code,iS e.Msg.Name,iS e.Msg.Data]) (ys := [iI 0,.p (.bool false),iI 0,.p (.bool false),.p (.bool false),.p (.bool false),iI 0,iI 0,iI 0,iI 0,.p (.bool false),iI 0,iI 0,iI 0,iS [],iS []]) (b:=(((e.Msg.Type':Int) == 0)&&(((e.Msg.Flags.Dup:Bool) == false)&&(((e.Msg.Flags.QoS:Int) == 0)&&(((e.Msg.Flags.Retain:Bool) == false)&&(((e.Msg.Flags.Will:Bool) == false)&&(((e.Msg.Flags.Clean:Bool) == false)&&(((e.Msg.Flags.Type':Int) == 0)&&(((e.Msg.Gateway:Int) == 0)&&(((e.Msg.Radius:Int) == 0)&&(((e.Msg.Time:Int) == 0)&&(((e.Msg.Timed:Bool) == false)&&(((e.Msg.TopicID:Int) == 0)&&(((e.Msg.MsgID:Int) == 0)&&(((e.Msg.Code:Int) == 0)&&(((e.Msg.Name:List UInt8) == [])&&(((e.Msg.Data:List UInt8) == [])&&true))))))))))))))))) rfl (iR h fun h=>?_);refine cP h Q54 (.cons q4 (.cons q4n .nil)) fun v5 h=>?_;exact am
def Zx (N:Nat) (e:Qg) (s66:Bool):Option Int:=
 cond s66
 (some 2)
 ((Vn N 3 e.Props).bind fun v76=>
 cond (Q0 .neq v76 0)
 (some 9)
 (some 0))
def Z9 (N:Nat) (e:Qg) (s44:Bool):Option Int:=
 cond s44
 (some 2)
 (cond (Q0 .lss e.Channel 0)
 (Zx N e true)
 (cond (Q0 .gtr e.Channel 65535)
 (Zx N e true)
 (cond (Q0 .neq e.Channel 0)
 (cond (Q0 .neq e.Proto 4)
 (Zx N e true)
 ((Yn N e).bind fun v71=>
 Zx N e (!v71)))
 ((Yn N e).bind fun v73=>
 Zx N e (!v73)))))
def V7 (N:Nat) (k4:Bool->Option Int) (e:Qg) (s52:Bool):Option Int:=
 cond s52
 (k4 s52)
 ((Uh N e).bind fun v55=>
 k4 (!v55))
def Yz (N:Nat) (k4:Bool->Option Int) (e:Qg) (s47:Bool):Option Int:=
 cond s47
 (k4 s47)
 (cond (Q0 .gtr ((Q7 Z5.cells e.Props).length:Int) 0)
 (V7 N k4 e (Q0 .neq e.Proto 2))
 (V7 N k4 e false))
def Zw (N:Nat) (e:Qg) (acked20:Bool) (s26:Bool):Option Int:=
 cond s26
 (some 2)
 (cond e.Dup
 (cond (!acked20)
 (Yz N (Z9 N e) e (Q0 .neq e.Proto 3))
 (Yz N (Z9 N e) e false))
 (Yz N (Z9 N e) e false))
def Yj (N:Nat) (e:Qg) (least17:Int) (acked20:Bool):Option Int:=
 cond (Q0 .lss e.QoS least17)
 (Zw N e acked20 true)
 (cond (Q0 .gtr e.QoS 2)
 (Zw N e acked20 true)
 (cond (Q0 .lss e.ID 0)
 (Zw N e acked20 true)
 (cond (Q0 .gtr e.ID 65535)
 (Zw N e acked20 true)
 (Zw N e acked20 (!((Q0 .neq e.ID 0) == acked20))))))
def Xx (N:Nat) (e:Qg) (least17:Int):Option Int:=
 cond (Q0 .eql e.QoS 1)
 (Yj N e least17 true)
 (Yj N e least17 (Q0 .eql e.QoS 2))
def Yi (N:Nat) (e:Qg) (s9:Bool):Option Int:=
 cond s9
 (some 2)
 ((Zn N e.Topic).bind fun v13=>
 cond (!v13)
 (some 10)
 (cond (Q0 .eql e.Proto 3)
 (Xx N e (-1))
 (Xx N e 0)))
def W7 (N:Nat) (e:Qg):Option Int:=
 cond (Q0 .lss e.Proto 1)
 (Yi N e true)
 (cond (Q0 .gtr e.Proto 4)
 (Yi N e true)
 (Yi N e (Q0 .neq e.Kind 1)))
def Q7v {N} {e} {r} (h:W7 N e=some r):pU 40 [.agg (Qg.cells e)] (.int .i64 r):=by
 refine Q1 k40 ?_;unfold W7 at h;rw [cX] at h;refine Q6x (Uk (σ:=Bool) (fun s9=>(.any :: .ptr 0 0::a8 (a4 (a2 (.any :: .p (.bool s9)::a16 (a16 (a16 (a16 (a16 (a8 (a4 (a2 (.any :: []))))))))))):List AV)) (fun _=>(.cells (Q5z e ([])) :: []:List AObj)) (fun s9=>Yi N e s9=some r) (fun _ _=>Lh _) ?_ ?_)
 ·apply iU h<;>intro h
  ·exact aB
  apply iU h<;>intro h
  ·exact aB
  show Exists _;exact ⟨((Ql6 .neq e.Kind 1)),h,(fun i=>i),Z6⟩
 rintro s9 h
 unfold Yi at h;rw [cX] at h;refine iL h fun h=>cP h X3 p1 fun v13 h=>iL h fun h=>Uk (σ:=Int) (fun least17=>(.any :: .ptr 0 0 :: .any::iI least17::a16 (a16 (a16 (a16 (a16 (a16 (a8 (a4 (.any :: [])))))))):List AV)) (fun _=>(.cells (Q5z e ([])) :: []:List AObj)) (fun least17=>Xx N e least17=some r) (fun _ _=>Lh _) ?_ ?_
 ·apply iU h<;>intro h
  ·show Exists _;exact ⟨((-1)),h,(fun i=>i),Z6⟩
  exact fP
 rintro least17 h
 unfold Xx at h;rw [cX] at h;refine Uk (σ:=Bool) (fun acked20=>(.any :: .ptr 0 0 :: .any::iI least17 :: .p (.bool acked20)::a16 (a16 (a16 (a16 (a16 (a16 (a8 (a4 ([])))))))):List AV)) (fun _=>(.cells (Q5z e ([])) :: []:List AObj)) (fun acked20=>Yj N e least17 acked20=some r) (fun _ _=>Lh _) ?_ ?_
 ·exact eG
 rintro acked20 h
 unfold Yj at h;rw [cX] at h;refine Uk (σ:=Bool) (fun s26=>(.any :: .ptr 0 0 :: .any :: .any :: .p (.bool acked20)::a16 (a8 (a4 (.p (.bool s26)::a16 (a16 (a16 (a16 (a8 (a4 (a2 (.any :: [])))))))))):List AV)) (fun _=>(.cells (Q5z e ([])) :: []:List AObj)) (fun s26=>Zw N e acked20 s26=some r) (fun _ _=>Lh _) ?_ ?_
 ·apply iU h<;>intro h
  ·exact aB
  apply iU h<;>intro h
  ·exact aB
  apply iU h<;>intro h
  ·exact aB
  apply iU h<;>intro h
  ·exact aB
  show Exists _;exact ⟨((!((Ql6 .neq e.ID 0) == acked20))),h,(fun i=>i),Z6⟩
 rintro s26 h
 unfold Zw at h;rw [cX] at h;refine iL h fun h=>Uk (σ:=Bool) (fun s44=>(.any :: .ptr 0 0::a16 (a16 (a16 (a8 (a2 (.p (.bool s44)::a16 (a16 (a16 (a4 ([]))))))))):List AV)) (fun _=>(.cells (Q5z e ([])) :: []:List AObj)) (fun s44=>Z9 N e s44=some r) (fun _ _=>Lh _) ?_ ?_
 ·refine Uk (σ:=Bool) (fun s47=>(.any :: .ptr 0 0::a16 (a16 (a16 (a8 (a2 (.p (.bool s47)::a16 (a16 (a16 (a4 ([]))))))))):List AV)) (fun _=>(.cells (Q5z e ([])) :: []:List AObj)) (fun s47=>Yz N (Z9 N e) e s47=some r) (fun _ _=>Lh _) ?_ ?_
  ·apply iU h<;>intro h
   ·apply iU h<;>intro h
    ·show Exists _;exact ⟨((Ql6 .neq e.Proto 3)),h,(fun i=>i),Z6⟩
    exact aA
   exact aA
  rintro s47 h
  unfold Yz at h;rw [cX] at h;apply iU h<;>intro h
  ·show Exists _;exact ⟨(s47),h,(fun i=>i),Z6⟩
  refine Uk (σ:=Bool) (fun s52=>(.any :: .ptr 0 0::a16 (a16 (a16 (a8 (a2 (.p (.bool s52)::a16 (a16 (a16 (a4 ([]))))))))):List AV)) (fun _=>(.cells (Q5z e ([])) :: []:List AObj)) (fun s52=>V7 N (Z9 N e) e s52=some r) (fun _ _=>Lh _) ?_ ?_
  ·apply iU h<;>intro h
   ·show Exists _;exact ⟨((Ql6 .neq e.Proto 2)),h,(fun i=>i),Z6⟩
   exact aA
  rintro s52 h
  unfold V7 at h;apply iU h<;>intro h
  ·show Exists _;exact ⟨(s52),h,(fun i=>i),Z6⟩
  refine cP h Qax (.cons (Ar (Vl (Vl (Vl za)))) .nil) fun v55 h=>?_;show Exists _;exact ⟨((!v55)),h,(fun i=>i),Z6⟩
 rintro s44 h
 unfold Z9 at h;rw [cX] at h;refine iL h fun h=>Uk (σ:=Bool) (fun s66=>(.any :: .ptr 0 0::a16 (a16 (a16 (a16 (a16 (a2 (.p (.bool s66)::a16 (a8 (a4 ([]))))))))):List AV)) (fun _=>(.cells (Q5z e ([])) :: []:List AObj)) (fun s66=>Zx N e s66=some r) (fun _ _=>Lh _) ?_ ?_
 ·apply iU h<;>intro h
  ·exact aB
  apply iU h<;>intro h
  ·exact aB
  apply iU h<;>intro h
  ·apply iU h<;>intro h
   ·exact aB
   refine cP h Ud (.cons (Ar (Vl (Vl (Vl za)))) .nil) fun v71 h=>?_;show Exists _;exact ⟨((!v71)),h,(fun i=>i),Z6⟩
  refine cP h Ud (.cons (Ar (Vl (Vl (Vl za)))) .nil) fun v73 h=>?_;show Exists _;exact ⟨((!v73)),h,(fun i=>i),Z6⟩
 rintro s66 h
 unfold Zx at h;rw [cX] at h;exact iL h fun h=>cP h Q8y p2 fun v76 h=>iB h
def Q1y (_N:Nat) (proto:Int):Option Int:=
 cond (Q0 .eql proto 1)
 (some 4)
 (cond (Q0 .eql proto 2)
 (some 5)
 (some 0))
def Q7w {N} {proto} {r} (h:Q1y N proto=some r):pU 73 [.int .i64 proto] (.int .i64 r):=by
 refine Q1 k73 ?_;unfold Q1y at h;rw [cX] at h;exact dt
def V5 (N:Nat) (a:List Vc) (b:List Vc):Nat->Int->Option Bool
 | 0,_=>none
 | n+1,i17=>
  cond (Q0 .lss i17 ((Q7 Vc.cells a).length:Int))
  ((idx a i17).bind fun y19=>
  (idx b i17).bind fun y21=>
  cond (!(((y19.Radius:Int) == y21.Radius)&&(((y19.Node:List UInt8) == y21.Node)&&true)))
  (some false)
  (V5 N a b n (wrap .i64 (i17+1))))
  (some true)
def Gi (N:Nat) (a:List Vc) (b:List Vc):Option Bool:=
 cond (Q0 .neq ((Q7 Vc.cells a).length:Int) ((Q7 Vc.cells b).length:Int))
 (some false)
 (V5 N a b N 0)
def Q9p {N} {a} {b} {r} (h:Gi N a b=some r):pU 46 [.slice 2 (Q7 Vc.cells a),.slice 2 (Q7 Vc.cells b)] (.bool r):=by
 refine Q1 k46 ?_;unfold Gi at h;rw [cX] at h;refine iL h fun h=>lpH (τ:=Int) (fun i17=>(.p (.slice 2 (Q7 Vc.cells a)) :: .p (.slice 2 (Q7 Vc.cells b))::a2 (.any::iI i17::a16 (a4 ([]))):List AV)) (fun n0 i17=>V5 N a b n0 i17) (0) h fun n0 i17 h=>?_
 first | rw [V5] at h | simp only [V5] at h
 exact gv
def Xp (N:Nat) (a:Qg) (b:Qg):Option Bool:=
 cond (Q0 .eql a.Proto b.Proto)
 (cond (Q0 .eql a.Kind b.Kind)
 (cond (Q10 .eql a.Topic b.Topic)
 (cond (Q10 .eql a.Payload b.Payload)
 (cond (Q0 .eql a.QoS b.QoS)
 (cond (a.Retain == b.Retain)
 (cond (a.Dup == b.Dup)
 (cond (Q0 .eql a.ID b.ID)
 ((Vb N a.Props b.Props).bind fun v9=>
 cond v9
 (cond (Q0 .eql a.Type' b.Type')
 ((Gi N a.Hops b.Hops).bind fun v13=>
 cond v13
 (cond (Q0 .eql a.Channel b.Channel)
 ((Uu N a.Packet b.Packet).bind fun v17=>
 cond v17
 (cond (((a.Msg.Type':Int) == b.Msg.Type')&&(((a.Msg.Flags.Dup:Bool) == b.Msg.Flags.Dup)&&(((a.Msg.Flags.QoS:Int) == b.Msg.Flags.QoS)&&(((a.Msg.Flags.Retain:Bool) == b.Msg.Flags.Retain)&&(((a.Msg.Flags.Will:Bool) == b.Msg.Flags.Will)&&(((a.Msg.Flags.Clean:Bool) == b.Msg.Flags.Clean)&&(((a.Msg.Flags.Type':Int) == b.Msg.Flags.Type')&&(((a.Msg.Gateway:Int) == b.Msg.Gateway)&&(((a.Msg.Radius:Int) == b.Msg.Radius)&&(((a.Msg.Time:Int) == b.Msg.Time)&&(((a.Msg.Timed:Bool) == b.Msg.Timed)&&(((a.Msg.TopicID:Int) == b.Msg.TopicID)&&(((a.Msg.MsgID:Int) == b.Msg.MsgID)&&(((a.Msg.Code:Int) == b.Msg.Code)&&(((a.Msg.Name:List UInt8) == b.Msg.Name)&&(((a.Msg.Data:List UInt8) == b.Msg.Data)&&true))))))))))))))))
 ((Uv N a.Frame b.Frame).bind fun v21=>
 some v21)
 (some false))
 (some false))
 (some false))
 (some false))
 (some false))
 (some false))
 (some false))
 (some false))
 (some false))
 (some false))
 (some false))
 (some false))
 (some false))
 (some false)
def Gq {N} {a} {b} {r} (h:Xp N a b=some r):pU 15 [.agg (Qg.cells a),.agg (Qg.cells b)] (.bool r):=by
 refine Q1 k15 ?_;unfold Xp at h;rw [cX,cY] at h;refine iR h fun h=>iR h fun h=>iR h fun h=>iR h fun h=>iR h fun h=>iR h fun h=>iR h fun h=>iR h fun h=>cP h Q20 p2 fun v9 h=>iR h fun h=>iR h fun h=>cP h Q9p p2 fun v13 h=>iR h fun h=>iR h fun h=>cP h Q4s (.cons zb zc) fun v17 h=>iR h fun h=>Qnj (ks := [0,2,0,2,2,2,0,0,0,0,2,0,0,0,1,1]) (xs := [iI a.Msg.Type',.p (.bool a.Msg.Flags.Dup),iI a.Msg.Flags.QoS,.p (.bool a.Msg.Flags.Retain),.p (.bool a.Msg.Flags.Will),.p (.bool a.Msg.Flags.Clean),iI a.Msg.Flags.Type',iI a.Msg.Gateway,iI a.Msg.Radius,iI a.Msg.Time,.p (.bool a.Msg.Timed),iI a.Msg.TopicID,iI a.Msg.MsgID,iI a.Msg.Code,iS a.Msg.Name,iS a.Msg.Data]) (ys := [iI b.Msg.Type',.p (.bool b.Msg.Flags.Dup),iI b.Msg.Flags.QoS,.p (.bool b.Msg.Flags.Retain),.p (.bool b.Msg.Flags.Will),.p (.bool b.Msg.Flags.Clean),iI b.Msg.Flags.Type',iI b.Msg.Gateway,iI b.Msg.Radius,iI b.Msg.Time,.p (.bool b.Msg.Timed),iI b.Msg.TopicID,iI b.Msg.MsgID,iI b.Msg.Code,iS b.Msg.Name,iS b.Msg.Data]) (b:=(((a.Msg.Type':Int) == b.Msg.Type')&&(((a.Msg.Flags.Dup:Bool) == b.Msg.Flags.Dup)&&(((a.Msg.Flags.QoS:Int) == b.Msg.Flags.QoS)&&(((a.Msg.Flags.Retain:Bool) == b.Msg.Flags.Retain)&&(((a.Msg.Flags.Will:Bool) == b.Msg.Flags.Will)&&(((a.Msg.Flags.Clean:Bool) == b.Msg.Flags.Clean)&&(((a.Msg.Flags.Type':Int) == b.Msg.Flags.Type')&&(((a.Msg.Gateway:Int) == b.Msg.Gateway)&&(((a.Msg.Radius:Int) == b.Msg.Radius)&&(((a.Msg.Time:Int) == b.Msg.Time)&&(((a.Msg.Timed:Bool) == b.Msg.Timed)&&(((a.Msg.TopicID:Int) == b.Msg.TopicID)&&(((a.Msg.MsgID:Int) == b.Msg.MsgID)&&(((a.Msg.Code:Int) == b.Msg.Code)&&(((a.Msg.Name:List UInt8) == b.Msg.Name)&&(((a.Msg.Data:List UInt8) == b.Msg.Data)&&true))))))))))))))))) rfl (iR h fun h=>?_);refine cP h Q54 (.cons q4 (.cons q4 .nil)) fun v21 h=>?_;exact am
def Jp (N:Nat) (e:Qg) (l:Yq):Option Int:=
 (Xp N (⟨e.Proto,e.Kind,e.Topic,e.Payload,e.QoS,e.Retain,e.Dup,e.ID,e.Props,e.Type',[],e.Channel,(⟨0,false,false,0,0,[],[],false,0,[],false,[],false,[],false,(⟨[],[],0,false,[]⟩:Q3r),false,0,[],[],[]⟩:Zj),(⟨0,(⟨false,0,false,false,false,0⟩:Qz),0,0,0,false,0,0,0,[],[]⟩:Xl),(⟨0,0,[],[]⟩:X9)⟩:Qg) (⟨e.Proto,2,[],[],0,false,false,0,[],0,[],0,(⟨0,false,false,0,0,[],[],false,0,[],false,[],false,[],false,(⟨[],[],0,false,[]⟩:Q3r),false,0,[],[],[]⟩:Zj),(⟨0,(⟨false,0,false,false,false,0⟩:Qz),0,0,0,false,0,0,0,[],[]⟩:Xl),(⟨0,0,[],[]⟩:X9)⟩:Qg)).bind fun v1=>
 cond (!v1)
 (some 2)
 ((Q1y N e.Proto).bind fun v4=>
 cond (Q0 .neq v4 0)
 ((Yn N (⟨e.Proto,e.Kind,e.Topic,e.Payload,e.QoS,e.Retain,e.Dup,e.ID,e.Props,e.Type',e.Hops,e.Channel,(⟨0,false,false,0,0,[],[],false,0,[],false,[],false,[],false,(⟨[],[],0,false,[]⟩:Q3r),false,0,[],[],[]⟩:Zj),e.Msg,e.Frame⟩:Qg)).bind fun v7=>
 cond (!v7)
 (some 2)
 (cond (Q0 .gtr ((Q7 Vc.cells e.Hops).length:Int) 0)
 (some 2)
 (cond (Q0 .eql e.Packet.Kind 3)
 (some 2)
 (none))))
 (cond (Q0 .eql e.Proto 3)
 ((Yn N (⟨e.Proto,e.Kind,e.Topic,e.Payload,e.QoS,e.Retain,e.Dup,e.ID,e.Props,e.Type',e.Hops,e.Channel,e.Packet,(⟨0,(⟨false,0,false,false,false,0⟩:Qz),0,0,0,false,0,0,0,[],[]⟩:Xl),e.Frame⟩:Qg)).bind fun v13=>
 cond (!v13)
 (some 2)
 (cond (Q0 .eql e.Msg.Type' 12)
 (some 2)
 ((X5 N (⟨e.Hops,e.Msg⟩:Qb) l).bind fun v17=>
 some v17)))
 (cond (Q0 .eql e.Proto 4)
 ((Yn N (⟨e.Proto,e.Kind,e.Topic,e.Payload,e.QoS,e.Retain,e.Dup,e.ID,e.Props,e.Type',e.Hops,e.Channel,e.Packet,e.Msg,(⟨0,0,[],[]⟩:X9)⟩:Qg)).bind fun v20=>
 cond (!v20)
 (some 2)
 (cond (Q0 .gtr ((Q7 Vc.cells e.Hops).length:Int) 0)
 (some 2)
 (none)))
 (some 2))))
def Q97 {N} {e} {l} {r} (h:Jp N e l=some r):pU 41 [.agg (Qg.cells e),.agg (Yq.cells l)] (.int .i64 r):=by
 refine Q1 k41 ?_;unfold Jp at h;rw [cX] at h;refine cP h Gq (.cons (Ar (f8_ (f2_ (.cons (.nil _) (Vl (f4_ (.cons (.nil _) (f2_ (.cons (.nil _) (.cons (.nil _) (.cons (.nil _) (Vl (f2_ (f1_ (.cons (.nil _) .nil))))))))))))))) (.cons (Ar (f8_ (.cons (.nil _) (.cons (.p _) (.cons (.nil _) (Vl (f4_ (.cons (.nil _) (f2_ (.cons (.nil _) (.cons (.nil _) (.cons (.nil _) (Vl (f2_ (f1_ (.cons (.nil _) .nil)))))))))))))))) .nil)) fun v1 h=>iL h fun h=>cP h Q7w p1 fun v4 h=>?_;apply iU h<;>intro h
 ·refine cP h Ud (.cons (Ar (Vl (f8_ (f4_ (f2_ (f1_ (.cons (.nil _) (f2_ (.cons (.nil _) (.cons (.nil _) (.cons (.nil _) (f8_ (f4_ (f2_ (.cons (.p _) p5))))))))))))))) .nil) fun v7 h=>iL h fun h=>iL h fun h=>iL h fun h=>?_
  exact bF
 apply iU h<;>intro h
 ·refine cP h Ud (.cons (Ar (Vl (Vl (Vl za)))) .nil) fun v13 h=>iL h fun h=>iL h fun h=>cP h Q1b (.cons (Ar (f8_ za)) (.cons q2 .nil)) fun v17 h=>?_;exact am
 refine iR h fun h=>Qd (cD h Ud (.cons (Ar (Vl (Vl (Vl (f8_ (.cons (.nil _) .nil)))))) .nil) fun v20 h=>?_);refine iL h fun h=>iL h fun h=>?_
 exact bF
def U4 (N:Nat) (e:Qg) (l:Yq):Option Int:=
 (Vu N l).bind fun v1=>
 cond (!v1)
 (some 2)
 (cond (Q0 .eql e.Kind 1)
 ((W7 N e).bind fun v5=>
 cond (Q0 .eql v5 0)
 (cond (Q0 .gtr (e.Payload.length:Int) l.MaxPacket)
 (some 4)
 (some v5))
 (some v5))
 (cond (Q0 .eql e.Kind 2)
 ((Jp N e l).bind fun v10=>
 some v10)
 (some 2)))
def Q92 {N} {e} {l} {r} (h:U4 N e l=some r):pU 12 [.agg (Qg.cells e),.agg (Yq.cells l)] (.int .i64 r):=by
 refine Q1 k12 ?_;unfold U4 at h;rw [cX] at h;refine cP h Q4b (.cons q2 .nil) fun v1 h=>iL h fun h=>?_;apply iU h<;>intro h
 ·exact cP h Q7v (.cons (Ar (Vl (Vl (Vl za)))) .nil) fun v5 h=>iR h fun h=>iB h
 refine iR h fun h=>cP h Q97 (.cons (Ar (Vl (Vl (Vl za)))) (.cons q2 .nil)) fun v10 h=>?_;exact am
def Yt (N:Nat) (a:List Qs) (b:List Qs):Nat->Int->Option Bool
 | 0,_=>none
 | n+1,i17=>
  cond (Q0 .lss i17 ((Q7 Qs.cells a).length:Int))
  ((idx a i17).bind fun y19=>
  (idx b i17).bind fun y21=>
  cond (!(((y19.ID:Int) == y21.ID)&&(((y19.Name:List UInt8) == y21.Name)&&(((y19.Fixed:Bool) == y21.Fixed)&&true))))
  (some false)
  (Yt N a b n (wrap .i64 (i17+1))))
  (some true)
def Qw (N:Nat) (a:List Qs) (b:List Qs):Option Bool:=
 cond (Q0 .neq ((Q7 Qs.cells a).length:Int) ((Q7 Qs.cells b).length:Int))
 (some false)
 (Yt N a b N 0)
def Ys {N} {a} {b} {r} (h:Qw N a b=some r):pU 16 [.slice 3 (Q7 Qs.cells a),.slice 3 (Q7 Qs.cells b)] (.bool r):=by
 refine Q1 k16 ?_;unfold Qw at h;rw [cX] at h;refine iL h fun h=>lpH (τ:=Int) (fun i17=>(.p (.slice 3 (Q7 Qs.cells a)) :: .p (.slice 3 (Q7 Qs.cells b))::a2 (.any::iI i17::a16 (a4 ([]))):List AV)) (fun n0 i17=>Yt N a b n0 i17) (0) h fun n0 i17 h=>?_
 first | rw [Yt] at h | simp only [Yt] at h
 exact gv
def Qan (t:Int×List UInt8×Bool):Qs:=⟨t.1,t.2.1,t.2.2⟩
def Gt (_N:Nat) (R:Reg) (c:List UInt8):Option (List Qs×Reg):=cond (Tp.okAll R c) (some ((Tp.rTopics R c).map Qan,R)) none
def Q1h {N R c r} (h:Gt N R c=some r):Q6f Tryz.prog G1 17 R [.str c] (.slice 3 (Q7 Qs.cells r.1)) r.2:=by
 unfold Gt at h
 cases hk:Tp.okAll R c with
 | false=>rw [hk] at h;cases h
 | true=>
  rw [hk] at h;cases h
  have e:Q7 Qs.cells ((Tp.rTopics R c).map Qan)=Q7 Tp.topC (Tp.rTopics R c):=by unfold Q7;rw [Mr];rfl
  show Q6f _ _ _ _ _ (.slice 3 (Q7 Qs.cells ((Tp.rTopics R c).map Qan))) _;rw [e];exact Tp.topics_reg hk
def Xg (N:Nat) (a:List (List UInt8)) (b:List (List UInt8)):Nat->Int->Option Bool
 | 0,_=>none
 | n+1,i17=>
  cond (Q0 .lss i17 ((Q7 cS a).length:Int))
  ((idx a i17).bind fun y19=>
  (idx b i17).bind fun y21=>
  cond (Q10 .neq y19 y21)
  (some false)
  (Xg N a b n (wrap .i64 (i17+1))))
  (some true)
def Z4 (N:Nat) (a:List (List UInt8)) (b:List (List UInt8)):Option Bool:=
 cond (Q0 .neq ((Q7 cS a).length:Int) ((Q7 cS b).length:Int))
 (some false)
 (Xg N a b N 0)
def Xf {N} {a} {b} {r} (h:Z4 N a b=some r):pU 19 [.slice 1 (Q7 cS a),.slice 1 (Q7 cS b)] (.bool r):=by
 refine Q1 k19 ?_;unfold Z4 at h;rw [cX] at h;refine iL h fun h=>lpH (τ:=Int) (fun i17=>(.p (.slice 1 (Q7 cS a)) :: .p (.slice 1 (Q7 cS b))::a2 (.any::iI i17::a16 (a4 ([]))):List AV)) (fun n0 i17=>Xg N a b n0 i17) (0) h fun n0 i17 h=>?_
 first | rw [Xg] at h | simp only [Xg] at h
 rw [cX,cY] at h;exact ar
def Jm (_N:Nat) (R:Reg):Option (List (List UInt8)×Reg):=cond (Tp.okKeys R) (some (Tp.rClients R,R)) none
def Q0h {N R r} (h:Jm N R=some r):Q6f Tryz.prog G1 20 R [] (.slice 1 (Q7 cS r.1)) r.2:=by
 unfold Jm at h
 cases hk:Tp.okKeys R with
 | false=>rw [hk] at h;cases h
 | true=>rw [hk] at h;cases h;exact Tp.clients_reg hk
def Zh (N:Nat) (r_0:Q2):Nat->Int->(List (List UInt8))->Option ((List (List UInt8))×Q2)
 | 0,_,_=>none
 | n+1,i10,l11=>
  cond (Q0 .lss i10 ((Q7 Q5.cells r_0.L).length:Int))
  ((idx r_0.L i10).bind fun y13=>
  cond (Nat.ble ((l11.length+1+4096) * 16) 17592186044416) (Zh N r_0 n (wrap .i64 (i10+1)) (l11 ++ [y13.client])) none)
  (some (l11,r_0))
def Qp (N:Nat) (r_0:Q2):Option ((List (List UInt8))×Q2):=
 Zh N r_0 N 0 []
def Zz {N} {r_0} {r} (h:Qp N r_0=some r):Qtu Tryz.prog G1 21 (Q2.cells r_0) [] (.slice 1 (Q7 cS r.1)) (Q2.cells r.2):=by
 refine Q78 k21 ?_;unfold Qp at h;refine lpA (τ:=Int×(List (List UInt8))) (fun ⟨i10,l11⟩=>(.ptr 0 0 :: .any :: .any :: .slice 1 1 0 l11.length::iI i10::a16 (a4 (.any :: [])):List AV)) (fun ⟨_,l11⟩=>(.cells (.p (.slice 2 (Q7 Q5.cells r_0.L)) :: []) :: .cells (Xh cS l11) :: []:List AObj)) (fun n0 ⟨i10,l11⟩=>Zh N r_0 n0 i10 l11) (0,[]) h fun n0 ⟨i10,l11⟩ h=>?_
 first | rw [Zh] at h | simp only [Zh] at h
 rw [cX] at h;apply iU h<;>intro h
 ·refine xR h fun y13 h=>?_;obtain ⟨hk15,h⟩:=Q6a h;refine Q3a (W8 (c:=cS) (e:=1) (fun _=>rfl) sd hk15) (Ja (c:=cS) [y13.client] rfl ?_);show Exists _;exact ⟨(n0,(wrap .i64 (i10+1)),(l11 ++ [y13.client])),h,Lc _,(rho [0,3]),Z6⟩
 obtain rfl:=Qe h;exact ⟨_,_,rfl,p1,(frz_own (c:=cS) (l:=(l11:List (List UInt8))) (fun _=>rfl) rfl (by decide) sd)⟩
end
end
end Go.Av
