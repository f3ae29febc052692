/- Part of the proof of CrossRound: for every input the law returns true; no condition. -/
import Derived.Test.YtaokaobiihpkbaaGreatDoorLiftF2
set_option linter.all false
open Go.IntKind (wrap)
namespace Go.Av
noncomputable section
open Go.Proofs
set_option maxRecDepth 100000
set_option maxHeartbeats 4000000
attribute [local irreducible] Xd Qu Q6p Q5q Qoa Qoi Qgy
section
def Y9 (N:Nat) (d:Qm):Nat→(List UInt8)→Int→Option (List UInt8)
 | 0,_,_=>none
 | n+1,out13,i14=>
  cond (Q5 .lss i14 ((Q9 V0.cells d.Hops).length:Int))
  ((idx d.Hops i14).bind fun y16=>
  cond (Nat.ble (out13.length + [UInt8.ofNat (wrap .u8 (wrap .i64 ((y16.Node.length:Int)+3))).toNat,UInt8.ofNat (Int.toNat 254),UInt8.ofNat (wrap .u8 y16.Radius).toNat].length) 4611686018427387904) (cond (Nat.ble ((out13 ++ [UInt8.ofNat (wrap .u8 (wrap .i64 ((y16.Node.length:Int)+3))).toNat,UInt8.ofNat (Int.toNat 254),UInt8.ofNat (wrap .u8 y16.Radius).toNat]).length+y16.Node.length) 4611686018427387904) (Y9 N d n ((out13 ++ [UInt8.ofNat (wrap .u8 (wrap .i64 ((y16.Node.length:Int)+3))).toNat,UInt8.ofNat (Int.toNat 254),UInt8.ofNat (wrap .u8 y16.Radius).toNat])++y16.Node) (wrap .i64 (i14+1))) none) none)
  ((Ji N d.Msg).bind fun v20=>
  cond (Nat.ble (out13.length+v20.1.length) 4611686018427387904) (some (out13++v20.1)) none)
def Wn (N:Nat) (d:Qm):Option (List UInt8):=
 Y9 N d N [] 0
theorem Q3f {N} {d} {r} (h:Wn N d=some r):pU 136 [.agg (Qm.cells d)] (.str r):=by
 refine Q3 Zaj ?_;unfold Wn at h;refine lpH (τ:=(List UInt8)×Int) (fun ⟨out13,i14⟩=>(.any :: .ptr 0 0 :: .any::iS out13::iI i14::a16 (a16 (a4 (a2 (.any :: [])))):List AV)) (fun n0 ⟨out13,i14⟩=>Y9 N d n0 out13 i14) ([],0) h fun n0 ⟨out13,i14⟩ h=>?_
 first | rw [Y9] at h | simp only [Y9] at h
 rw [cX] at h;apply iU h<;>intro h
 ·refine xR h fun y16 h=>?_;refine kU h fun h=>?_;refine kU h fun h=>?_;show Exists _;exact ⟨(n0,((out13 ++ [UInt8.ofNat (wrap .u8 (wrap .i64 ((y16.Node.length:Int)+3))).toNat,UInt8.ofNat (Int.toNat 254),UInt8.ofNat (wrap .u8 y16.Radius).toNat])++y16.Node),(wrap .i64 (i14+1))),h,Lg _,(fun i=>i),Yr⟩
 refine cP h Q41 (.cons (Frz.agg' (f8_ (f2_ (.cons (.p _) p5)))) .nil) fun v20 h=>?_;refine kU h fun h=>?_;cases h;exact (.p _)
def Jq (_N:Nat) (l:X2):Option Bool:=
 cond (Q5 .geq l.MaxPacket 16)
 (cond (Q5 .leq l.MaxPacket 1048576)
 (cond (Q5 .geq l.MaxDepth 0)
 (some (Q5 .leq l.MaxDepth 32))
 (some false))
 (some false))
 (some false)
theorem Q3e {N} {l} {r} (h:Jq N l=some r):pU 133 [.agg (X2.cells l)] (.bool r):=by
 refine Q3 Z8m ?_;unfold Jq at h;rw [cX] at h;refine iR h fun h=>?_;refine iR h fun h=>?_;exact iB h
def Vi (_N:Nat) (h_0:V0):Option Bool:=
 cond (Q5 .geq h_0.Radius 0)
 (cond (Q5 .leq h_0.Radius 3)
 (cond (Q5 .geq (h_0.Node.length:Int) 1)
 (some (Q5 .leq (h_0.Node.length:Int) 32))
 (some false))
 (some false))
 (some false)
theorem Q5a {N} {h_0} {r} (h:Vi N h_0=some r):pU 134 [.agg (V0.cells h_0)] (.bool r):=by
 refine Q3 Zb5 ?_;unfold Vi at h;rw [cX] at h;refine iR h fun h=>?_;refine iR h fun h=>?_;exact iB h
def Jp (_N:Nat) (m:Wh):Option Int:=cond (Q74 (Wh.cells m) [.int .i64 23,.bool false,.int .i64 0,.bool false,.bool false,.bool false,.int .i64 0,.int .i64 0,.int .i64 0,.int .i64 0,.bool false,.int .i64 0,.int .i64 0,.int .i64 0,.str [],.str []]) (some 0) none
theorem Q3g {N m r} (h:Jp N m=some r):pU 135 [.agg (Wh.cells m)] (.int .i64 r):=by
 unfold Jp at h
 cases hq:Q74 (Wh.cells m) [.int .i64 23,.bool false,.int .i64 0,.bool false,.bool false,.bool false,.int .i64 0,.int .i64 0,.int .i64 0,.int .i64 0,.bool false,.int .i64 0,.int .i64 0,.int .i64 0,.str [],.str []] with
 | false=>rw [hq] at h;cases h
 | true=>rw [hq] at h;cases h;rw [Q21 _ _ hq];exact Q1l Qe8 (N:=4000) (d:=60) (by kernel_rfl)
def Yb (N:Nat) (d:Qm) (l:X2):Nat→Int→Option Int
 | 0,_=>none
 | n+1,i18=>
  cond (Q5 .lss i18 ((Q9 V0.cells d.Hops).length:Int))
  ((idx d.Hops i18).bind fun y20=>
  (Vi N y20).bind fun v22=>
  cond (!v22)
  (some 2)
  (Yb N d l n (wrap .i64 (i18+1))))
  ((Jp N d.Msg).bind fun v25=>
  cond (Q5 .eql v25 0)
  ((Wn N d).bind fun v28=>
  cond (Q5 .gtr (v28.length:Int) l.MaxPacket)
  (some 4)
  (some v25))
  (some v25))
def Wo (N:Nat) (d:Qm) (l:X2):Option Int:=
 (Jq N l).bind fun v1=>
 cond (!v1)
 (some 2)
 (cond (Q5 .gtr ((Q9 V0.cells d.Hops).length:Int) 4)
 (some 12)
 (Yb N d l N 0))
theorem Q3j {N} {d} {l} {r} (h:Wo N d l=some r):pU 106 [.agg (Qm.cells d),.agg (X2.cells l)] (.int .i64 r):=by
 refine Q3 Z8i ?_;unfold Wo at h;rw [cX] at h;refine cP h Q3e (.cons q2 .nil) fun v1 h=>?_;refine iL h fun h=>?_;refine iL h fun h=>?_;refine lpH (τ:=Int) (fun i18=>(.any :: .any :: .ptr 0 0 :: .ptr 1 0 :: .any::iI i18::a16 (a16 (a4 ([]))):List AV)) (fun n0 i18=>Yb N d l n0 i18) (0) h fun n0 i18 h=>?_
 first | rw [Yb] at h | simp only [Yb] at h
 rw [cX] at h;apply iU h<;>intro h
 ·refine xR h fun y20 h=>?_;refine cP h Q5a (.cons q2 .nil) fun v22 h=>?_;refine iL h fun h=>?_;show Exists _;exact ⟨(n0,(wrap .i64 (i18+1))),h,Lg _,(fun i=>i),Yr⟩
 refine cP h Q3g (.cons (Frz.agg' (f8_ (f2_ (.cons (.p _) p5)))) .nil) fun v25 h=>?_;refine Qk ?_;refine iR h fun h=>?_;refine cD h Q3f (.cons (Frz.agg' (f8_ (f2_ (f1_ (.cons (.p _) p5))))) .nil) fun v28 h=>?_;exact iB h
def Uh (_N:Nat):Option (X2):=
 some (⟨1048576,32⟩:X2)
theorem Q2l {N} {r} (h:Uh N=some r):pU 107 [] (.agg (X2.cells r)):=by
 refine Q3 Z17 ?_;unfold Uh at h;obtain rfl:=Qv h;exact q2
def V2 (N:Nat) (l:List V0):Option Bool:=
 (Uh N).bind fun v1=>
 (Wo N (⟨l,(⟨23,(⟨false,0,false,false,false,0⟩:Qp),0,0,0,false,0,0,0,[],[]⟩:Wh)⟩:Qm) v1).bind fun v3=>
 some (Q5 .eql v3 0)
theorem Q45 {N} {l} {r} (h:V2 N l=some r):pU 83 [.slice 2 (Q9 V0.cells l)] (.bool r):=by
 refine Q3 k83 ?_;unfold V2 at h;rw [cX] at h;refine Qk ?_;refine cD h Q2l p0 fun v1 h=>?_;refine cD h Q3j (.cons (Frz.agg' (f8_ (f2_ (f1_ (.cons (.p _) p5))))) p1) fun v3 h=>?_;cases h;exact (.p _)
def Wx (N:Nat) (e:Qc):Option Bool:=
 cond (Q5 .neq e.Proto 3)
 (cond (Q5 .eql e.Type' 0)
 (some (Q5 .eql ((Q9 V0.cells e.Hops).length:Int) 0))
 (some false))
 ((Wp N e.Topic).bind fun v3=>
 cond (Q5 .geq e.Type' 0)
 (cond (Q5 .leq e.Type' 2)
 ((V2 N e.Hops).bind fun v7=>
 cond v7
 (cond (Q5 .neq e.Type' 2)
 (some true)
 (some v3.2))
 (some false))
 (some false))
 (some false))
theorem Q5f {N} {e} {r} (h:Wx N e=some r):pU 39 [.agg (Qc.cells e)] (.bool r):=by
 refine Q3 k39 ?_;unfold Wx at h;rw [cX] at h;apply iU h<;>intro h
 ·exact iB h
 refine cP h Q3z p1 fun v3 h=>?_;refine iR h fun h=>?_;refine iR h fun h=>?_;refine cP h Q45 p1 fun v7 h=>?_;refine iR h fun h=>?_;exact iB h
def Zd (N:Nat) (e:Qc) (s66:Bool):Option Int:=
 cond s66
 (some 2)
 ((Xn N 3 e.Props).bind fun v76=>
 cond (Q5 .neq v76 0)
 (some 9)
 (some 0))
def Qi (N:Nat) (e:Qc) (s44:Bool):Option Int:=
 cond s44
 (some 2)
 (cond (Q5 .lss e.Channel 0)
 (Zd N e true)
 (cond (Q5 .gtr e.Channel 65535)
 (Zd N e true)
 (cond (Q5 .neq e.Channel 0)
 (cond (Q5 .neq e.Proto 4)
 (Zd N e true)
 ((Yo N e).bind fun v71=>
 Zd N e (!v71)))
 ((Yo N e).bind fun v73=>
 Zd N e (!v73)))))
def Yf (N:Nat) (k4:Bool→Option Int) (e:Qc) (s52:Bool):Option Int:=
 cond s52
 (k4 s52)
 ((Wx N e).bind fun v55=>
 k4 (!v55))
def Y1 (N:Nat) (k4:Bool→Option Int) (e:Qc) (s47:Bool):Option Int:=
 cond s47
 (k4 s47)
 (cond (Q5 .gtr ((Q9 Zq.cells e.Props).length:Int) 0)
 (Yf N k4 e (Q5 .neq e.Proto 2))
 (Yf N k4 e false))
def Ze (N:Nat) (e:Qc) (acked20:Bool) (s26:Bool):Option Int:=
 cond s26
 (some 2)
 (cond e.Dup
 (cond (!acked20)
 (Y1 N (Qi N e) e (Q5 .neq e.Proto 3))
 (Y1 N (Qi N e) e false))
 (Y1 N (Qi N e) e false))
def Zp (N:Nat) (e:Qc) (least17:Int) (acked20:Bool):Option Int:=
 cond (Q5 .lss e.QoS least17)
 (Ze N e acked20 true)
 (cond (Q5 .gtr e.QoS 2)
 (Ze N e acked20 true)
 (cond (Q5 .lss e.ID 0)
 (Ze N e acked20 true)
 (cond (Q5 .gtr e.ID 65535)
 (Ze N e acked20 true)
 (Ze N e acked20 (!((Q5 .neq e.ID 0) == acked20))))))
def Yh (N:Nat) (e:Qc) (least17:Int):Option Int:=
 cond (Q5 .eql e.QoS 1)
 (Zp N e least17 true)
 (Zp N e least17 (Q5 .eql e.QoS 2))
def Zo (N:Nat) (e:Qc) (s9:Bool):Option Int:=
 cond s9
 (some 2)
 ((Yp N e.Topic).bind fun v13=>
 cond (!v13)
 (some 10)
 (cond (Q5 .eql e.Proto 3)
 (Yh N e (-1))
 (Yh N e 0)))
def Zt (N:Nat) (e:Qc):Option Int:=
 cond (Q5 .lss e.Proto 1)
 (Zo N e true)
 (cond (Q5 .gtr e.Proto 4)
 (Zo N e true)
 (Zo N e (Q5 .neq e.Kind 1)))
theorem G6 {N} {e} {r} (h:Zt N e=some r):pU 15 [.agg (Qc.cells e)] (.int .i64 r):=by
 refine Q3 k15 ?_;unfold Zt at h;rw [cX] at h;refine Qao ?_;refine Gb (σ:=Bool) (fun s9=>(.any :: .ptr 0 0::a8 (a4 (a2 (.any :: .p (.bool s9)::a16 (a16 (a16 (a16 (a16 (a8 (a4 (a2 (.any :: []))))))))))):List AV)) (fun _=>(.cells (Q19 e ([])) :: []:List AObj)) (fun s9=>Zo N e s9=some r) (fun _ _=>Ll _) ?_ ?_
 ·apply iU h<;>intro h
  ·show Exists _;exact ⟨(true),h,(fun i=>i),Yr⟩
  apply iU h<;>intro h
  ·show Exists _;exact ⟨(true),h,(fun i=>i),Yr⟩
  show Exists _;exact ⟨((Qm1 .neq e.Kind 1)),h,(fun i=>i),Yr⟩
 rintro s9 h
 unfold Zo at h;rw [cX] at h;refine iL h fun h=>?_;refine cP h V7 p1 fun v13 h=>?_;refine iL h fun h=>?_;refine Gb (σ:=Int) (fun least17=>(.any :: .ptr 0 0 :: .any::iI least17::a16 (a16 (a16 (a16 (a16 (a16 (a8 (a4 (.any :: [])))))))):List AV)) (fun _=>(.cells (Q19 e ([])) :: []:List AObj)) (fun least17=>Yh N e least17=some r) (fun _ _=>Ll _) ?_ ?_
 ·apply iU h<;>intro h
  ·show Exists _;exact ⟨((-1)),h,(fun i=>i),Yr⟩
  show Exists _;exact ⟨(0),h,(fun i=>i),Yr⟩
 rintro least17 h
 unfold Yh at h;rw [cX] at h;refine Gb (σ:=Bool) (fun acked20=>(.any :: .ptr 0 0 :: .any::iI least17 :: .p (.bool acked20)::a16 (a16 (a16 (a16 (a16 (a16 (a8 (a4 ([])))))))):List AV)) (fun _=>(.cells (Q19 e ([])) :: []:List AObj)) (fun acked20=>Zp N e least17 acked20=some r) (fun _ _=>Ll _) ?_ ?_
 ·apply iU h<;>intro h
  ·show Exists _;exact ⟨(true),h,(fun i=>i),Yr⟩
  show Exists _;exact ⟨((Qm1 .eql e.QoS 2)),h,(fun i=>i),Yr⟩
 rintro acked20 h
 unfold Zp at h;rw [cX] at h;refine Gb (σ:=Bool) (fun s26=>(.any :: .ptr 0 0 :: .any :: .any :: .p (.bool acked20)::a16 (a8 (a4 (.p (.bool s26)::a16 (a16 (a16 (a16 (a8 (a4 (a2 (.any :: [])))))))))):List AV)) (fun _=>(.cells (Q19 e ([])) :: []:List AObj)) (fun s26=>Ze N e acked20 s26=some r) (fun _ _=>Ll _) ?_ ?_
 ·apply iU h<;>intro h
  ·show Exists _;exact ⟨(true),h,(fun i=>i),Yr⟩
  apply iU h<;>intro h
  ·show Exists _;exact ⟨(true),h,(fun i=>i),Yr⟩
  apply iU h<;>intro h
  ·show Exists _;exact ⟨(true),h,(fun i=>i),Yr⟩
  apply iU h<;>intro h
  ·show Exists _;exact ⟨(true),h,(fun i=>i),Yr⟩
  show Exists _;exact ⟨((!((Qm1 .neq e.ID 0) == acked20))),h,(fun i=>i),Yr⟩
 rintro s26 h
 unfold Ze at h;rw [cX] at h;refine iL h fun h=>?_;refine Gb (σ:=Bool) (fun s44=>(.any :: .ptr 0 0::a16 (a16 (a16 (a8 (a2 (.p (.bool s44)::a16 (a16 (a16 (a4 ([]))))))))):List AV)) (fun _=>(.cells (Q19 e ([])) :: []:List AObj)) (fun s44=>Qi N e s44=some r) (fun _ _=>Ll _) ?_ ?_
 ·refine Gb (σ:=Bool) (fun s47=>(.any :: .ptr 0 0::a16 (a16 (a16 (a8 (a2 (.p (.bool s47)::a16 (a16 (a16 (a4 ([]))))))))):List AV)) (fun _=>(.cells (Q19 e ([])) :: []:List AObj)) (fun s47=>Y1 N (Qi N e) e s47=some r) (fun _ _=>Ll _) ?_ ?_
  ·apply iU h<;>intro h
   ·apply iU h<;>intro h
    ·show Exists _;exact ⟨((Qm1 .neq e.Proto 3)),h,(fun i=>i),Yr⟩
    show Exists _;exact ⟨(false),h,(fun i=>i),Yr⟩
   show Exists _;exact ⟨(false),h,(fun i=>i),Yr⟩
  rintro s47 h
  unfold Y1 at h;rw [cX] at h;apply iU h<;>intro h
  ·show Exists _;exact ⟨(s47),h,(fun i=>i),Yr⟩
  refine Gb (σ:=Bool) (fun s52=>(.any :: .ptr 0 0::a16 (a16 (a16 (a8 (a2 (.p (.bool s52)::a16 (a16 (a16 (a4 ([]))))))))):List AV)) (fun _=>(.cells (Q19 e ([])) :: []:List AObj)) (fun s52=>Yf N (Qi N e) e s52=some r) (fun _ _=>Ll _) ?_ ?_
  ·apply iU h<;>intro h
   ·show Exists _;exact ⟨((Qm1 .neq e.Proto 2)),h,(fun i=>i),Yr⟩
   show Exists _;exact ⟨(false),h,(fun i=>i),Yr⟩
  rintro s52 h
  unfold Yf at h;apply iU h<;>intro h
  ·show Exists _;exact ⟨(s52),h,(fun i=>i),Yr⟩
  refine cP h Q5f (.cons (Frz.agg' (Za (Za (Za (f2_ (f1_ (.cons (.p _) p5))))))) .nil) fun v55 h=>?_;show Exists _;exact ⟨((!v55)),h,(fun i=>i),Yr⟩
 rintro s44 h
 unfold Qi at h;rw [cX] at h;refine iL h fun h=>?_;refine Gb (σ:=Bool) (fun s66=>(.any :: .ptr 0 0::a16 (a16 (a16 (a16 (a16 (a2 (.p (.bool s66)::a16 (a8 (a4 ([]))))))))):List AV)) (fun _=>(.cells (Q19 e ([])) :: []:List AObj)) (fun s66=>Zd N e s66=some r) (fun _ _=>Ll _) ?_ ?_
 ·apply iU h<;>intro h
  ·show Exists _;exact ⟨(true),h,(fun i=>i),Yr⟩
  apply iU h<;>intro h
  ·show Exists _;exact ⟨(true),h,(fun i=>i),Yr⟩
  apply iU h<;>intro h
  ·apply iU h<;>intro h
   ·show Exists _;exact ⟨(true),h,(fun i=>i),Yr⟩
   refine cP h Q0j (.cons (Frz.agg' (Za (Za (Za (f2_ (f1_ (.cons (.p _) p5))))))) .nil) fun v71 h=>?_;show Exists _;exact ⟨((!v71)),h,(fun i=>i),Yr⟩
  refine cP h Q0j (.cons (Frz.agg' (Za (Za (Za (f2_ (f1_ (.cons (.p _) p5))))))) .nil) fun v73 h=>?_;show Exists _;exact ⟨((!v73)),h,(fun i=>i),Yr⟩
 rintro s66 h
 unfold Zd at h;rw [cX] at h;refine iL h fun h=>?_;refine cP h Q3q p2 fun v76 h=>?_;exact iB h
def Vv (_N:Nat) (n_0:Int) (m:Int):Option Int:=
 cond (Q5 .lss m 1)
 (some 0)
 (cond (!((m:Int) == 0)) (cond (Q5 .lss ((n_0:Int).tmod m) 0)
 (some (wrap .i64 (((n_0:Int).tmod m)+m)))
 (some ((n_0:Int).tmod m))) none)
theorem Q5j {N} {n_0} {m} {r} (h:Vv N n_0 m=some r):pU 16 [.int .i64 n_0,.int .i64 m] (.int .i64 r):=by
 refine Q3 k16 ?_;unfold Vv at h;rw [cX] at h;refine iL h fun h=>?_;refine kU h fun h=>?_;exact iB h
def Zm (N:Nat) (t:List Q8) (client:List UInt8) (topic:List UInt8) (payload:List UInt8) (retain:Bool) (v10:Int):Nat→Int→(List Q0)→Reg→Option Bool
 | 0,_,_,_=>none
 | n+1,i103,Qqi,R105=>
  cond (Q5 .lss i103 ((Q9 Q8.cells t).length:Int))
  ((idx t i103).bind fun y107=>
  cond (Q5 .eql y107.ID 0)
  ((idx t i103).bind fun y114=>
  (idx t i103).bind fun y116=>
  (J9 N R105 y114.Client y116.Name).bind fun v118=>
  (idx t i103).bind fun y120=>
  (idx t i103).bind fun y122=>
  (Z9 N (⟨Qqi⟩:Q1) y120.Client y122.Name).bind fun v124=>
  Zm N t client topic payload retain v10 n (wrap .i64 (i103+1)) v124.2.L v118.2)
  ((idx t i103).bind fun y132=>
  (idx t i103).bind fun y134=>
  (idx t i103).bind fun y136=>
  (Uk N R105 y132.Client y134.Name y136.ID).bind fun v138=>
  (idx t i103).bind fun y140=>
  (idx t i103).bind fun y142=>
  (idx t i103).bind fun y144=>
  (Z7 N (⟨Qqi⟩:Q1) y140.Client y142.Name y144.ID).bind fun v146=>
  Zm N t client topic payload retain v10 n (wrap .i64 (i103+1)) v146.2.L v138.2))
  ((Zl N R105 client (⟨1,1,topic,payload,v10,retain,false,(wrap .i64 (1+(payload.length:Int))),[],0,[],0,(⟨0,false,false,0,0,[],[],false,0,[],false,[],false,[],false,(⟨[],[],0,false,[]⟩:Wj),false,0,[],[],[]⟩:Ql),(⟨0,(⟨false,0,false,false,false,0⟩:Qp),0,0,0,false,0,0,0,[],[]⟩:Wh),(⟨0,0,[],[]⟩:Zi)⟩:Qc) 4).bind fun v148=>
  (Xt N v148.2 client topic).bind fun v150=>
  cond (Q5 .neq v148.1.2 0)
  (some false)
  ((Zc N v150.2 client (⟨1,1,topic,payload,v10,retain,false,(wrap .i64 (1+(payload.length:Int))),[],0,[],0,(⟨0,false,false,0,0,[],[],false,0,[],false,[],false,[],false,(⟨[],[],0,false,[]⟩:Wj),false,0,[],[],[]⟩:Ql),(⟨0,(⟨false,0,false,false,false,0⟩:Qp),0,0,0,false,0,0,0,[],[]⟩:Wh),(⟨0,0,[],[]⟩:Zi)⟩:Qc) 4).bind fun v153=>
  cond (!v153.1)
  (some false)
  ((Zl N v153.2 client v148.1.1 2).bind fun v156=>
  (Xt N v156.2 client topic).bind fun v158=>
  cond (Q5 .neq v156.1.2 0)
  (some false)
  ((Zc N v158.2 client v148.1.1 2).bind fun v161=>
  cond (!v161.1)
  (some false)
  ((Zl N v161.2 client v156.1.1 3).bind fun v164=>
  (Xt N v164.2 client topic).bind fun v166=>
  cond (Q5 .neq v166.1.2 0)
  (cond (Q5 .neq (topic.length:Int) 2)
  (cond (Q5 .neq v164.1.2 15)
  (some false)
  ((Zl N v166.2 client v156.1.1 1).bind fun v171=>
  (Xt N v171.2 client topic).bind fun v173=>
  cond (Q5 .neq v171.1.2 0)
  (some false)
  ((Zc N v173.2 client v156.1.1 1).bind fun v176=>
  cond (!v176.1)
  (some false)
  ((Qo N v171.1.1 (⟨1,1,topic,payload,v10,retain,false,(wrap .i64 (1+(payload.length:Int))),[],0,[],0,(⟨0,false,false,0,0,[],[],false,0,[],false,[],false,[],false,(⟨[],[],0,false,[]⟩:Wj),false,0,[],[],[]⟩:Ql),(⟨0,(⟨false,0,false,false,false,0⟩:Qp),0,0,0,false,0,0,0,[],[]⟩:Wh),(⟨0,0,[],[]⟩:Zi)⟩:Qc)).bind fun v179=>
  some v179))))
  (cond (Q5 .neq v164.1.2 0)
  (some false)
  ((Zc N v166.2 client v156.1.1 3).bind fun v182=>
  cond (!v182.1)
  (some false)
  ((Zl N v182.2 client v164.1.1 1).bind fun v185=>
  (Xt N v185.2 client topic).bind fun v187=>
  cond (Q5 .neq v185.1.2 0)
  (some false)
  ((Zc N v187.2 client v164.1.1 1).bind fun v190=>
  cond (!v190.1)
  (some false)
  ((Qo N v185.1.1 (⟨1,1,topic,payload,v10,retain,false,(wrap .i64 (1+(payload.length:Int))),[],0,[],0,(⟨0,false,false,0,0,[],[],false,0,[],false,[],false,[],false,(⟨[],[],0,false,[]⟩:Wj),false,0,[],[],[]⟩:Ql),(⟨0,(⟨false,0,false,false,false,0⟩:Qp),0,0,0,false,0,0,0,[],[]⟩:Wh),(⟨0,0,[],[]⟩:Zi)⟩:Qc)).bind fun v193=>
  some v193))))))
  (cond (Q5 .neq v164.1.2 0)
  (some false)
  ((Zc N v166.2 client v156.1.1 3).bind fun v196=>
  cond (!v196.1)
  (some false)
  ((Zl N v196.2 client v164.1.1 1).bind fun v199=>
  (Xt N v199.2 client topic).bind fun v201=>
  cond (Q5 .neq v199.1.2 0)
  (some false)
  ((Zc N v201.2 client v164.1.1 1).bind fun v204=>
  cond (!v204.1)
  (some false)
  ((Qo N v199.1.1 (⟨1,1,topic,payload,v10,retain,false,(wrap .i64 (1+(payload.length:Int))),[],0,[],0,(⟨0,false,false,0,0,[],[],false,0,[],false,[],false,[],false,(⟨[],[],0,false,[]⟩:Wj),false,0,[],[],[]⟩:Ql),(⟨0,(⟨false,0,false,false,false,0⟩:Qp),0,0,0,false,0,0,0,[],[]⟩:Wh),(⟨0,0,[],[]⟩:Zi)⟩:Qc)).bind fun v207=>
  some v207))))))))))
def Zn (N:Nat) (t:List Q8) (client:List UInt8) (topic:List UInt8) (payload:List UInt8) (retain:Bool) (v10:Int):Nat→Int→(List Q0)→Reg→Option Bool
 | 0,_,_,_=>none
 | n+1,i299,Qqk,R301=>
  cond (Q5 .lss i299 ((Q9 Q8.cells t).length:Int))
  ((idx t i299).bind fun y303=>
  cond (Q5 .eql y303.ID 0)
  ((idx t i299).bind fun y310=>
  (idx t i299).bind fun y312=>
  (J9 N R301 y310.Client y312.Name).bind fun v314=>
  (idx t i299).bind fun y316=>
  (idx t i299).bind fun y318=>
  (Z9 N (⟨Qqk⟩:Q1) y316.Client y318.Name).bind fun v320=>
  Zn N t client topic payload retain v10 n (wrap .i64 (i299+1)) v320.2.L v314.2)
  ((idx t i299).bind fun y328=>
  (idx t i299).bind fun y330=>
  (idx t i299).bind fun y332=>
  (Uk N R301 y328.Client y330.Name y332.ID).bind fun v334=>
  (idx t i299).bind fun y336=>
  (idx t i299).bind fun y338=>
  (idx t i299).bind fun y340=>
  (Z7 N (⟨Qqk⟩:Q1) y336.Client y338.Name y340.ID).bind fun v342=>
  Zn N t client topic payload retain v10 n (wrap .i64 (i299+1)) v342.2.L v334.2))
  ((Zl N R301 client (⟨1,1,topic,payload,v10,retain,false,0,[],0,[],0,(⟨0,false,false,0,0,[],[],false,0,[],false,[],false,[],false,(⟨[],[],0,false,[]⟩:Wj),false,0,[],[],[]⟩:Ql),(⟨0,(⟨false,0,false,false,false,0⟩:Qp),0,0,0,false,0,0,0,[],[]⟩:Wh),(⟨0,0,[],[]⟩:Zi)⟩:Qc) 4).bind fun v344=>
  (Xt N v344.2 client topic).bind fun v346=>
  cond (Q5 .neq v344.1.2 0)
  (some false)
  ((Zc N v346.2 client (⟨1,1,topic,payload,v10,retain,false,0,[],0,[],0,(⟨0,false,false,0,0,[],[],false,0,[],false,[],false,[],false,(⟨[],[],0,false,[]⟩:Wj),false,0,[],[],[]⟩:Ql),(⟨0,(⟨false,0,false,false,false,0⟩:Qp),0,0,0,false,0,0,0,[],[]⟩:Wh),(⟨0,0,[],[]⟩:Zi)⟩:Qc) 4).bind fun v349=>
  cond (!v349.1)
  (some false)
  ((Zl N v349.2 client v344.1.1 2).bind fun v352=>
  (Xt N v352.2 client topic).bind fun v354=>
  cond (Q5 .neq v352.1.2 0)
  (some false)
  ((Zc N v354.2 client v344.1.1 2).bind fun v357=>
  cond (!v357.1)
  (some false)
  ((Zl N v357.2 client v352.1.1 3).bind fun v360=>
  (Xt N v360.2 client topic).bind fun v362=>
  cond (Q5 .neq v362.1.2 0)
  (cond (Q5 .neq (topic.length:Int) 2)
  (cond (Q5 .neq v360.1.2 15)
  (some false)
  ((Zl N v362.2 client v352.1.1 1).bind fun v367=>
  (Xt N v367.2 client topic).bind fun v369=>
  cond (Q5 .neq v367.1.2 0)
  (some false)
  ((Zc N v369.2 client v352.1.1 1).bind fun v372=>
  cond (!v372.1)
  (some false)
  ((Qo N v367.1.1 (⟨1,1,topic,payload,v10,retain,false,0,[],0,[],0,(⟨0,false,false,0,0,[],[],false,0,[],false,[],false,[],false,(⟨[],[],0,false,[]⟩:Wj),false,0,[],[],[]⟩:Ql),(⟨0,(⟨false,0,false,false,false,0⟩:Qp),0,0,0,false,0,0,0,[],[]⟩:Wh),(⟨0,0,[],[]⟩:Zi)⟩:Qc)).bind fun v375=>
  some v375))))
  (cond (Q5 .neq v360.1.2 0)
  (some false)
  ((Zc N v362.2 client v352.1.1 3).bind fun v378=>
  cond (!v378.1)
  (some false)
  ((Zl N v378.2 client v360.1.1 1).bind fun v381=>
  (Xt N v381.2 client topic).bind fun v383=>
  cond (Q5 .neq v381.1.2 0)
  (some false)
  ((Zc N v383.2 client v360.1.1 1).bind fun v386=>
  cond (!v386.1)
  (some false)
  ((Qo N v381.1.1 (⟨1,1,topic,payload,v10,retain,false,0,[],0,[],0,(⟨0,false,false,0,0,[],[],false,0,[],false,[],false,[],false,(⟨[],[],0,false,[]⟩:Wj),false,0,[],[],[]⟩:Ql),(⟨0,(⟨false,0,false,false,false,0⟩:Qp),0,0,0,false,0,0,0,[],[]⟩:Wh),(⟨0,0,[],[]⟩:Zi)⟩:Qc)).bind fun v389=>
  some v389))))))
  (cond (Q5 .neq v360.1.2 0)
  (some false)
  ((Zc N v362.2 client v352.1.1 3).bind fun v392=>
  cond (!v392.1)
  (some false)
  ((Zl N v392.2 client v360.1.1 1).bind fun v395=>
  (Xt N v395.2 client topic).bind fun v397=>
  cond (Q5 .neq v395.1.2 0)
  (some false)
  ((Zc N v397.2 client v360.1.1 1).bind fun v400=>
  cond (!v400.1)
  (some false)
  ((Qo N v395.1.1 (⟨1,1,topic,payload,v10,retain,false,0,[],0,[],0,(⟨0,false,false,0,0,[],[],false,0,[],false,[],false,[],false,(⟨[],[],0,false,[]⟩:Wj),false,0,[],[],[]⟩:Ql),(⟨0,(⟨false,0,false,false,false,0⟩:Qp),0,0,0,false,0,0,0,[],[]⟩:Wh),(⟨0,0,[],[]⟩:Zi)⟩:Qc)).bind fun v403=>
  some v403))))))))))
def X8 (N:Nat) (t:List Q8) (client:List UInt8) (topic:List UInt8) (payload:List UInt8) (qos:Int) (retain:Bool):Option Bool:=
 (Q1e N).bind fun v1=>
 cond (!v1)
 (some false)
 ((U1 N t).bind fun v4=>
 cond (!v4)
 (some true)
 (cond (Q5 .gtr (client.length:Int) 100)
 (some true)
 (cond (Q5 .gtr (topic.length:Int) 2000)
 (some true)
 (cond (Q5 .gtr (payload.length:Int) 2000)
 (some true)
 ((Vv N qos 3).bind fun v10=>
 cond (Q5 .gtr v10 0)
 ((Zt N (⟨1,1,topic,payload,v10,retain,false,(wrap .i64 (1+(payload.length:Int))),[],0,[],0,(⟨0,false,false,0,0,[],[],false,0,[],false,[],false,[],false,(⟨[],[],0,false,[]⟩:Wj),false,0,[],[],[]⟩:Ql),(⟨0,(⟨false,0,false,false,false,0⟩:Qp),0,0,0,false,0,0,0,[],[]⟩:Wh),(⟨0,0,[],[]⟩:Zi)⟩:Qc)).bind fun v13=>
 cond (Q5 .neq v13 0)
 (some true)
 (Zm N t client topic payload retain v10 N 0 [] []))
 ((Zt N (⟨1,1,topic,payload,v10,retain,false,0,[],0,[],0,(⟨0,false,false,0,0,[],[],false,0,[],false,[],false,[],false,(⟨[],[],0,false,[]⟩:Wj),false,0,[],[],[]⟩:Ql),(⟨0,(⟨false,0,false,false,false,0⟩:Qp),0,0,0,false,0,0,0,[],[]⟩:Wh),(⟨0,0,[],[]⟩:Zi)⟩:Qc)).bind fun v209=>
 cond (Q5 .neq v209 0)
 (some true)
 (Zn N t client topic payload retain v10 N 0 [] [])))))))
theorem Q1q {N} {t} {client} {topic} {payload} {qos} {retain} {r} (h:X8 N t client topic payload qos retain=some r):pU 4 [.slice 3 (Q9 Q8.cells t),.str client,.str topic,.str payload,.int .i64 qos,.bool retain] (.bool r):=by
 refine Q3 k4 ?_;unfold X8 at h;rw [cX] at h;refine cP h Q3u p0 fun v1 h=>?_;refine iL h fun h=>?_;refine cP h Q3h p1 fun v4 h=>?_;refine iL h fun h=>?_;refine iL h fun h=>?_;refine iL h fun h=>?_;refine iL h fun h=>?_;refine cP h Q5j p2 fun v10 h=>?_;apply iU h<;>intro h
 ·refine cP h G6 (.cons (Frz.agg' (f8_ (.cons (.nil _) (.cons (.p _) (.cons (.nil _) (Za (f4_ (.cons (.nil _) (f2_ (.cons (.nil _) (.cons (.nil _) (.cons (.nil _) (Za (f2_ (f1_ (.cons (.nil _) .nil)))))))))))))))) .nil) fun v13 h=>?_;refine iL h fun h=>?_;refine Qf k9 ?_;refine Qkr Qpg 1 rfl ?_;refine Qf k24 ?_;refine lpC (τ:=Int×(List Q0)×Reg) (fun ⟨i103,_,_⟩=>(.p (.slice 3 (Q9 Q8.cells t))::a2 (.any :: .ptr 1 0 :: .ptr 3 0::iI i103::a16 (a16 (a16 (a16 (a8 (a2 ([]))))))):List AV)) (fun ⟨_,Qqi,R105⟩=>(.cells (iI 1::iI 1::iS topic::iS payload::iI v10 :: .p (.bool retain) :: .p (.bool false) :: .p (.int .i64 (wrap .i64 (1+(payload.length:Int)))) :: .p .nilSlice::iI 0 :: .p .nilSlice::iI 0::iI 0 :: .p (.bool false) :: .p (.bool false)::iI 0::iI 0::iS []::iS [] :: .p (.bool false)::iI 0::iS [] :: .p (.bool false)::iS [] :: .p (.bool false)::iS [] :: .p (.bool false)::iS []::iS []::iI 0 :: .p (.bool false) :: .p .nilSlice :: .p (.bool false)::iI 0 :: .p .nilSlice :: .p .nilSlice :: .p .nilSlice::iI 0 :: .p (.bool false)::iI 0 :: .p (.bool false) :: .p (.bool false) :: .p (.bool false)::iI 0::iI 0::iI 0::iI 0 :: .p (.bool false)::iI 0::iI 0::iI 0::iS []::iS []::iI 0::iI 0::iS [] :: .p .nilSlice :: []) :: .dead :: .dead :: .cells (.p (.slice 2 (Q9 Q0.cells Qqi)) :: []) :: .ext R105 1 :: []:List AObj)) (fun n0 ⟨i103,Qqi,R105⟩=>Zm N t client topic payload retain v10 n0 i103 Qqi R105) (0,[],[]) h (rho [0,1,2,3,2]) ⟨(rE rfl <| rW <| rA <| rE rfl <| rE rfl <| rE rfl <| rX <| rX <| rX <| rX <| rX <| rX <| rX <| rX <| rX <| rW <| rN),(hE rfl <| hD <| hD <| hC rfl (rF (.nil _) <| rN) <| hE rfl <| hN),rfl,rfl,(roE rfl <| roE rfl <| roE rfl <| roE rfl <| roE rfl <| roN)⟩ fun n0 ⟨i103,Qqi,R105⟩ h=>?_
  first | rw [Zm] at h | simp only [Zm] at h
  rw [cX] at h;apply iU h<;>intro h
  ·refine xR h fun y107 h=>?_;apply iU h<;>intro h
   ·refine Vu 11 rfl rfl ?_;refine xR h fun y114 h=>?_;refine xR h fun y116 h=>?_;refine cRg h Q3p (b:=4) rfl p2 fun v118 h=>?_;refine Qk ?_;refine xR h fun y120 h=>?_;refine xR h fun y122 h=>?_;refine dM h Vb rfl p2 fun v124 h=>?_;show Exists _;exact ⟨(n0,(wrap .i64 (i103+1)),v124.2.L,v118.2),h,Lg _,(rho [0,1,2,3,5]),Yr⟩
   refine Vu 16 rfl rfl ?_;refine xR h fun y132 h=>?_;refine xR h fun y134 h=>?_;refine xR h fun y136 h=>?_;refine cRg h Q2y (b:=4) rfl p3 fun v138 h=>?_;refine Qk ?_;refine xR h fun y140 h=>?_;refine xR h fun y142 h=>?_;refine xR h fun y144 h=>?_;refine dM h V4 rfl p3 fun v146 h=>?_;show Exists _;exact ⟨(n0,(wrap .i64 (i103+1)),v146.2.L,v138.2),h,Lg _,(rho [0,1,2,3,5]),Yr⟩
  refine Qx 6 ?_;refine dT ?_;refine cRg h X1 (b:=4) rfl (.cons (.p _) (.cons (Frz.agg' (f8_ (.cons (.nil _) (.cons (.p _) (.cons (.nil _) (Za (f4_ (.cons (.nil _) (f2_ (.cons (.nil _) (.cons (.nil _) (.cons (.nil _) (Za (f2_ (f1_ (.cons (.nil _) .nil)))))))))))))))) p1)) fun v148 h=>?_;refine cRg h Xk (b:=7) rfl p2 fun v150 h=>?_;refine dF ?_;refine iL h fun h=>?_;refine cRg h Yc (b:=9) rfl (.cons (.p _) (.cons (Frz.agg' (f8_ (.cons (.nil _) (.cons (.p _) (.cons (.nil _) (Za (f4_ (.cons (.nil _) (f2_ (.cons (.nil _) (.cons (.nil _) (.cons (.nil _) (Za (f2_ (f1_ (.cons (.nil _) .nil)))))))))))))))) p1)) fun v153 h=>?_;refine iL h fun h=>?_;refine dT ?_;refine cRg h X1 (b:=10) rfl (.cons (.p _) (.cons (Frz.agg' (Za (Za (Za (f2_ (f1_ (.cons (.p _) p5))))))) p1)) fun v156 h=>?_;refine cRg h Xk (b:=11) rfl p2 fun v158 h=>?_;refine dF ?_;refine iL h fun h=>?_;refine cRg h Yc (b:=13) rfl (.cons (.p _) (.cons (Frz.agg' (Za (Za (Za (f2_ (f1_ (.cons (.p _) p5))))))) p1)) fun v161 h=>?_;refine iL h fun h=>?_;refine dT ?_;refine cRg h X1 (b:=14) rfl (.cons (.p _) (.cons (Frz.agg' (Za (Za (Za (f2_ (f1_ (.cons (.p _) p5))))))) p1)) fun v164 h=>?_;refine cRg h Xk (b:=15) rfl p2 fun v166 h=>?_;refine dT ?_;apply iU h<;>intro h
  ·apply iU h<;>intro h
   ·refine iL h fun h=>?_;refine dT ?_;refine cRg h X1 (b:=17) rfl (.cons (.p _) (.cons (Frz.agg' (Za (Za (Za (f2_ (f1_ (.cons (.p _) p5))))))) p1)) fun v171 h=>?_;refine cRg h Xk (b:=18) rfl p2 fun v173 h=>?_;refine dF ?_;refine iL h fun h=>?_;refine cRg h Yc (b:=20) rfl (.cons (.p _) (.cons (Frz.agg' (Za (Za (Za (f2_ (f1_ (.cons (.p _) p5))))))) p1)) fun v176 h=>?_;refine iL h fun h=>?_;refine dF ?_;refine cP h X5 (.cons (Frz.agg' (Za (Za (Za (f2_ (f1_ (.cons (.p _) p5))))))) (.cons (Frz.agg' (f8_ (.cons (.nil _) (.cons (.p _) (.cons (.nil _) (Za (f4_ (.cons (.nil _) (f2_ (.cons (.nil _) (.cons (.nil _) (.cons (.nil _) (Za (f2_ (f1_ (.cons (.nil _) .nil)))))))))))))))) .nil)) fun v179 h=>?_;cases h;exact (.p _)
   refine iL h fun h=>?_;refine cRg h Yc (b:=17) rfl (.cons (.p _) (.cons (Frz.agg' (Za (Za (Za (f2_ (f1_ (.cons (.p _) p5))))))) p1)) fun v182 h=>?_;refine iL h fun h=>?_;refine dT ?_;refine cRg h X1 (b:=18) rfl (.cons (.p _) (.cons (Frz.agg' (Za (Za (Za (f2_ (f1_ (.cons (.p _) p5))))))) p1)) fun v185 h=>?_;refine cRg h Xk (b:=19) rfl p2 fun v187 h=>?_;refine dF ?_;refine iL h fun h=>?_;refine cRg h Yc (b:=21) rfl (.cons (.p _) (.cons (Frz.agg' (Za (Za (Za (f2_ (f1_ (.cons (.p _) p5))))))) p1)) fun v190 h=>?_;refine iL h fun h=>?_;refine dF ?_;refine cP h X5 (.cons (Frz.agg' (Za (Za (Za (f2_ (f1_ (.cons (.p _) p5))))))) (.cons (Frz.agg' (f8_ (.cons (.nil _) (.cons (.p _) (.cons (.nil _) (Za (f4_ (.cons (.nil _) (f2_ (.cons (.nil _) (.cons (.nil _) (.cons (.nil _) (Za (f2_ (f1_ (.cons (.nil _) .nil)))))))))))))))) .nil)) fun v193 h=>?_;cases h;exact (.p _)
  refine iL h fun h=>?_;refine cRg h Yc (b:=17) rfl (.cons (.p _) (.cons (Frz.agg' (Za (Za (Za (f2_ (f1_ (.cons (.p _) p5))))))) p1)) fun v196 h=>?_;refine iL h fun h=>?_;refine dT ?_;refine cRg h X1 (b:=18) rfl (.cons (.p _) (.cons (Frz.agg' (Za (Za (Za (f2_ (f1_ (.cons (.p _) p5))))))) p1)) fun v199 h=>?_;refine cRg h Xk (b:=19) rfl p2 fun v201 h=>?_;refine dF ?_;refine iL h fun h=>?_;refine cRg h Yc (b:=21) rfl (.cons (.p _) (.cons (Frz.agg' (Za (Za (Za (f2_ (f1_ (.cons (.p _) p5))))))) p1)) fun v204 h=>?_;refine iL h fun h=>?_;refine dF ?_;refine cP h X5 (.cons (Frz.agg' (Za (Za (Za (f2_ (f1_ (.cons (.p _) p5))))))) (.cons (Frz.agg' (f8_ (.cons (.nil _) (.cons (.p _) (.cons (.nil _) (Za (f4_ (.cons (.nil _) (f2_ (.cons (.nil _) (.cons (.nil _) (.cons (.nil _) (Za (f2_ (f1_ (.cons (.nil _) .nil)))))))))))))))) .nil)) fun v207 h=>?_;cases h;exact (.p _)
 refine cP h G6 (.cons (Frz.agg' (f8_ (.cons (.nil _) (.cons (.p _) (.cons (.nil _) (Za (f4_ (.cons (.nil _) (f2_ (.cons (.nil _) (.cons (.nil _) (.cons (.nil _) (Za (f2_ (f1_ (.cons (.nil _) .nil)))))))))))))))) .nil) fun v209 h=>?_;refine iL h fun h=>?_;refine Qf k9 ?_;refine Qkr Qpg 1 rfl ?_;refine Qf k24 ?_;refine lpC (τ:=Int×(List Q0)×Reg) (fun ⟨i299,_,_⟩=>(.p (.slice 3 (Q9 Q8.cells t))::a2 (.any :: .ptr 1 0 :: .ptr 3 0::iI i299::a16 (a16 (a16 (a16 (a8 (a2 ([]))))))):List AV)) (fun ⟨_,Qqk,R301⟩=>(.cells (iI 1::iI 1::iS topic::iS payload::iI v10 :: .p (.bool retain) :: .p (.bool false)::iI 0 :: .p .nilSlice::iI 0 :: .p .nilSlice::iI 0::iI 0 :: .p (.bool false) :: .p (.bool false)::iI 0::iI 0::iS []::iS [] :: .p (.bool false)::iI 0::iS [] :: .p (.bool false)::iS [] :: .p (.bool false)::iS [] :: .p (.bool false)::iS []::iS []::iI 0 :: .p (.bool false) :: .p .nilSlice :: .p (.bool false)::iI 0 :: .p .nilSlice :: .p .nilSlice :: .p .nilSlice::iI 0 :: .p (.bool false)::iI 0 :: .p (.bool false) :: .p (.bool false) :: .p (.bool false)::iI 0::iI 0::iI 0::iI 0 :: .p (.bool false)::iI 0::iI 0::iI 0::iS []::iS []::iI 0::iI 0::iS [] :: .p .nilSlice :: []) :: .dead :: .dead :: .cells (.p (.slice 2 (Q9 Q0.cells Qqk)) :: []) :: .ext R301 1 :: []:List AObj)) (fun n1 ⟨i299,Qqk,R301⟩=>Zn N t client topic payload retain v10 n1 i299 Qqk R301) (0,[],[]) h (rho [0,1,2,3,2]) ⟨(rE rfl <| rW <| rA <| rE rfl <| rE rfl <| rE rfl <| rX <| rX <| rX <| rX <| rX <| rX <| rX <| rX <| rX <| rW <| rN),(hE rfl <| hD <| hD <| hC rfl (rF (.nil _) <| rN) <| hE rfl <| hN),rfl,rfl,(roE rfl <| roE rfl <| roE rfl <| roE rfl <| roE rfl <| roN)⟩ fun n1 ⟨i299,Qqk,R301⟩ h=>?_
 first | rw [Zn] at h | simp only [Zn] at h
 rw [cX] at h;apply iU h<;>intro h
 ·refine xR h fun y303 h=>?_;apply iU h<;>intro h
  ·refine Vu 11 rfl rfl ?_;refine xR h fun y310 h=>?_;refine xR h fun y312 h=>?_;refine cRg h Q3p (b:=4) rfl p2 fun v314 h=>?_;refine Qk ?_;refine xR h fun y316 h=>?_;refine xR h fun y318 h=>?_;refine dM h Vb rfl p2 fun v320 h=>?_;show Exists _;exact ⟨(n1,(wrap .i64 (i299+1)),v320.2.L,v314.2),h,Lg _,(rho [0,1,2,3,5]),Yr⟩
  refine Vu 16 rfl rfl ?_;refine xR h fun y328 h=>?_;refine xR h fun y330 h=>?_;refine xR h fun y332 h=>?_;refine cRg h Q2y (b:=4) rfl p3 fun v334 h=>?_;refine Qk ?_;refine xR h fun y336 h=>?_;refine xR h fun y338 h=>?_;refine xR h fun y340 h=>?_;refine dM h V4 rfl p3 fun v342 h=>?_;show Exists _;exact ⟨(n1,(wrap .i64 (i299+1)),v342.2.L,v334.2),h,Lg _,(rho [0,1,2,3,5]),Yr⟩
 refine Qx 6 ?_;refine dT ?_;refine cRg h X1 (b:=4) rfl (.cons (.p _) (.cons (Frz.agg' (f8_ (.cons (.nil _) (.cons (.p _) (.cons (.nil _) (Za (f4_ (.cons (.nil _) (f2_ (.cons (.nil _) (.cons (.nil _) (.cons (.nil _) (Za (f2_ (f1_ (.cons (.nil _) .nil)))))))))))))))) p1)) fun v344 h=>?_;refine cRg h Xk (b:=7) rfl p2 fun v346 h=>?_;refine dF ?_;refine iL h fun h=>?_;refine cRg h Yc (b:=9) rfl (.cons (.p _) (.cons (Frz.agg' (f8_ (.cons (.nil _) (.cons (.p _) (.cons (.nil _) (Za (f4_ (.cons (.nil _) (f2_ (.cons (.nil _) (.cons (.nil _) (.cons (.nil _) (Za (f2_ (f1_ (.cons (.nil _) .nil)))))))))))))))) p1)) fun v349 h=>?_;refine iL h fun h=>?_;refine dT ?_;refine cRg h X1 (b:=10) rfl (.cons (.p _) (.cons (Frz.agg' (Za (Za (Za (f2_ (f1_ (.cons (.p _) p5))))))) p1)) fun v352 h=>?_;refine cRg h Xk (b:=11) rfl p2 fun v354 h=>?_;refine dF ?_;refine iL h fun h=>?_;refine cRg h Yc (b:=13) rfl (.cons (.p _) (.cons (Frz.agg' (Za (Za (Za (f2_ (f1_ (.cons (.p _) p5))))))) p1)) fun v357 h=>?_;refine iL h fun h=>?_;refine dT ?_;refine cRg h X1 (b:=14) rfl (.cons (.p _) (.cons (Frz.agg' (Za (Za (Za (f2_ (f1_ (.cons (.p _) p5))))))) p1)) fun v360 h=>?_;refine cRg h Xk (b:=15) rfl p2 fun v362 h=>?_;refine dT ?_;apply iU h<;>intro h
 ·apply iU h<;>intro h
  ·refine iL h fun h=>?_;refine dT ?_;refine cRg h X1 (b:=17) rfl (.cons (.p _) (.cons (Frz.agg' (Za (Za (Za (f2_ (f1_ (.cons (.p _) p5))))))) p1)) fun v367 h=>?_;refine cRg h Xk (b:=18) rfl p2 fun v369 h=>?_;refine dF ?_;refine iL h fun h=>?_;refine cRg h Yc (b:=20) rfl (.cons (.p _) (.cons (Frz.agg' (Za (Za (Za (f2_ (f1_ (.cons (.p _) p5))))))) p1)) fun v372 h=>?_;refine iL h fun h=>?_;refine dF ?_;refine cP h X5 (.cons (Frz.agg' (Za (Za (Za (f2_ (f1_ (.cons (.p _) p5))))))) (.cons (Frz.agg' (f8_ (.cons (.nil _) (.cons (.p _) (.cons (.nil _) (Za (f4_ (.cons (.nil _) (f2_ (.cons (.nil _) (.cons (.nil _) (.cons (.nil _) (Za (f2_ (f1_ (.cons (.nil _) .nil)))))))))))))))) .nil)) fun v375 h=>?_;cases h;exact (.p _)
  refine iL h fun h=>?_;refine cRg h Yc (b:=17) rfl (.cons (.p _) (.cons (Frz.agg' (Za (Za (Za (f2_ (f1_ (.cons (.p _) p5))))))) p1)) fun v378 h=>?_;refine iL h fun h=>?_;refine dT ?_;refine cRg h X1 (b:=18) rfl (.cons (.p _) (.cons (Frz.agg' (Za (Za (Za (f2_ (f1_ (.cons (.p _) p5))))))) p1)) fun v381 h=>?_;refine cRg h Xk (b:=19) rfl p2 fun v383 h=>?_;refine dF ?_;refine iL h fun h=>?_;refine cRg h Yc (b:=21) rfl (.cons (.p _) (.cons (Frz.agg' (Za (Za (Za (f2_ (f1_ (.cons (.p _) p5))))))) p1)) fun v386 h=>?_;refine iL h fun h=>?_;refine dF ?_;refine cP h X5 (.cons (Frz.agg' (Za (Za (Za (f2_ (f1_ (.cons (.p _) p5))))))) (.cons (Frz.agg' (f8_ (.cons (.nil _) (.cons (.p _) (.cons (.nil _) (Za (f4_ (.cons (.nil _) (f2_ (.cons (.nil _) (.cons (.nil _) (.cons (.nil _) (Za (f2_ (f1_ (.cons (.nil _) .nil)))))))))))))))) .nil)) fun v389 h=>?_;cases h;exact (.p _)
 refine iL h fun h=>?_;refine cRg h Yc (b:=17) rfl (.cons (.p _) (.cons (Frz.agg' (Za (Za (Za (f2_ (f1_ (.cons (.p _) p5))))))) p1)) fun v392 h=>?_;refine iL h fun h=>?_;refine dT ?_;refine cRg h X1 (b:=18) rfl (.cons (.p _) (.cons (Frz.agg' (Za (Za (Za (f2_ (f1_ (.cons (.p _) p5))))))) p1)) fun v395 h=>?_;refine cRg h Xk (b:=19) rfl p2 fun v397 h=>?_;refine dF ?_;refine iL h fun h=>?_;refine cRg h Yc (b:=21) rfl (.cons (.p _) (.cons (Frz.agg' (Za (Za (Za (f2_ (f1_ (.cons (.p _) p5))))))) p1)) fun v400 h=>?_;refine iL h fun h=>?_;refine dF ?_;refine cP h X5 (.cons (Frz.agg' (Za (Za (Za (f2_ (f1_ (.cons (.p _) p5))))))) (.cons (Frz.agg' (f8_ (.cons (.nil _) (.cons (.p _) (.cons (.nil _) (Za (f4_ (.cons (.nil _) (f2_ (.cons (.nil _) (.cons (.nil _) (.cons (.nil _) (Za (f2_ (f1_ (.cons (.nil _) .nil)))))))))))))))) .nil)) fun v403 h=>?_;cases h;exact (.p _)
end
end
end Go.Av
