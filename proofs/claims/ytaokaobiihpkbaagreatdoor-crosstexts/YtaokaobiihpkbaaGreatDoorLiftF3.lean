/- Part of the proof of CrossTexts: for every input the law returns true; no condition. -/
import Derived.Test.YtaokaobiihpkbaaGreatDoorLiftF2
set_option linter.all false
open Go.IntKind (wrap)
namespace Go.Av
noncomputable section
open Go.Proofs
set_option maxRecDepth 100000
set_option maxHeartbeats 4000000
attribute [local irreducible] Xk Qs Q7i Q68 Qph Qrf Qiq
section
def Y3 (N:Nat) (e:Qa):Option (List UInt8):=
 cond (Q5 .geq e.Proto 1)
 (cond (Q5 .leq e.Proto 4)
 ((idx ([[109,113,116,116,51],[109,113,116,116,53],[115,110],[97,109,113,112]]:List (List UInt8)) (wrap .i64 (e.Proto - 1))).bind fun y3=>
 cond (Q5 .neq e.Kind 1)
 (cond (Nat.ble (y3.length + [32,111,116,104,101,114].length) 4611686018427387904) (some (y3 ++ [32,111,116,104,101,114])) none)
 (cond (Nat.ble (y3.length + [32,112,117,98,108,105,115,104,32,113].length) 4611686018427387904) ((Z7 N e.QoS).bind fun v8=>
 cond (Nat.ble ((y3 ++ [32,112,117,98,108,105,115,104,32,113]).length+v8.length) 4611686018427387904) (cond (Nat.ble (((y3 ++ [32,112,117,98,108,105,115,104,32,113])++v8).length + [32].length) 4611686018427387904) (cond (Nat.ble ((((y3 ++ [32,112,117,98,108,105,115,104,32,113])++v8) ++ [32]).length+e.Topic.length) 4611686018427387904) (cond (Nat.ble (((((y3 ++ [32,112,117,98,108,105,115,104,32,113])++v8) ++ [32])++e.Topic).length + [32].length) 4611686018427387904) ((Z7 N (e.Payload.length:Int)).bind fun v14=>
 cond (Nat.ble ((((((y3 ++ [32,112,117,98,108,105,115,104,32,113])++v8) ++ [32])++e.Topic) ++ [32]).length+v14.length) 4611686018427387904) (cond e.Retain
 (cond (Nat.ble (((((((y3 ++ [32,112,117,98,108,105,115,104,32,113])++v8) ++ [32])++e.Topic) ++ [32])++v14).length + [32,114,101,116,97,105,110].length) 4611686018427387904) (some (((((((y3 ++ [32,112,117,98,108,105,115,104,32,113])++v8) ++ [32])++e.Topic) ++ [32])++v14) ++ [32,114,101,116,97,105,110])) none)
 (some ((((((y3 ++ [32,112,117,98,108,105,115,104,32,113])++v8) ++ [32])++e.Topic) ++ [32])++v14))) none) none) none) none) none) none))
 (cond (Q5 .neq e.Kind 1)
 (some [63,32,111,116,104,101,114])
 ((Z7 N e.QoS).bind fun v20=>
 cond (Nat.ble ([63,32,112,117,98,108,105,115,104,32,113].length+v20.length) 4611686018427387904) (cond (Nat.ble (([63,32,112,117,98,108,105,115,104,32,113]++v20).length + [32].length) 4611686018427387904) (cond (Nat.ble ((([63,32,112,117,98,108,105,115,104,32,113]++v20) ++ [32]).length+e.Topic.length) 4611686018427387904) (cond (Nat.ble (((([63,32,112,117,98,108,105,115,104,32,113]++v20) ++ [32])++e.Topic).length + [32].length) 4611686018427387904) ((Z7 N (e.Payload.length:Int)).bind fun v26=>
 cond (Nat.ble ((((([63,32,112,117,98,108,105,115,104,32,113]++v20) ++ [32])++e.Topic) ++ [32]).length+v26.length) 4611686018427387904) (cond e.Retain
 (cond (Nat.ble (((((([63,32,112,117,98,108,105,115,104,32,113]++v20) ++ [32])++e.Topic) ++ [32])++v26).length + [32,114,101,116,97,105,110].length) 4611686018427387904) (some (((((([63,32,112,117,98,108,105,115,104,32,113]++v20) ++ [32])++e.Topic) ++ [32])++v26) ++ [32,114,101,116,97,105,110])) none)
 (some ((((([63,32,112,117,98,108,105,115,104,32,113]++v20) ++ [32])++e.Topic) ++ [32])++v26))) none) none) none) none) none)))
 (cond (Q5 .neq e.Kind 1)
 (some [63,32,111,116,104,101,114])
 ((Z7 N e.QoS).bind fun v32=>
 cond (Nat.ble ([63,32,112,117,98,108,105,115,104,32,113].length+v32.length) 4611686018427387904) (cond (Nat.ble (([63,32,112,117,98,108,105,115,104,32,113]++v32).length + [32].length) 4611686018427387904) (cond (Nat.ble ((([63,32,112,117,98,108,105,115,104,32,113]++v32) ++ [32]).length+e.Topic.length) 4611686018427387904) (cond (Nat.ble (((([63,32,112,117,98,108,105,115,104,32,113]++v32) ++ [32])++e.Topic).length + [32].length) 4611686018427387904) ((Z7 N (e.Payload.length:Int)).bind fun v38=>
 cond (Nat.ble ((((([63,32,112,117,98,108,105,115,104,32,113]++v32) ++ [32])++e.Topic) ++ [32]).length+v38.length) 4611686018427387904) (cond e.Retain
 (cond (Nat.ble (((((([63,32,112,117,98,108,105,115,104,32,113]++v32) ++ [32])++e.Topic) ++ [32])++v38).length + [32,114,101,116,97,105,110].length) 4611686018427387904) (some (((((([63,32,112,117,98,108,105,115,104,32,113]++v32) ++ [32])++e.Topic) ++ [32])++v38) ++ [32,114,101,116,97,105,110])) none)
 (some ((((([63,32,112,117,98,108,105,115,104,32,113]++v32) ++ [32])++e.Topic) ++ [32])++v38))) none) none) none) none) none))
theorem Q19 {N} {e} {r} (h:Y3 N e=some r):pU 13 [.agg (Qa.cells e)] (.str r):=by
 refine Q3 k13 ?_;unfold Y3 at h;rw [cX] at h;apply iU h<;>intro h
 ·apply iU h<;>intro h
  ·obtain ⟨y3,hy4,h⟩:=Q0m h;refine Q37 (Qp2 hy4 sd) ?_
   refine Q6j (c:=cS) (e:=1) (fun _=>rfl) hy4 (off:=0) (by decide) (by first | omega | (simp only [Qan,orI,Qtv,Q58,Qh7,Qot];omega)) ?_
   apply iU h<;>intro h
   ·refine kU h fun h=>?_;cases h;exact (.p _)
   refine Qi ?_;refine kU h fun h=>?_;refine cD h Yt p1 fun v8 h=>?_;refine kU h fun h=>?_;refine kU h fun h=>?_;refine kU h fun h=>?_;refine kU h fun h=>?_;refine cD h Yt p1 fun v14 h=>?_;refine kU h fun h=>?_;refine iR h fun h=>?_;refine kU h fun h=>?_;cases h;exact (.p _)
  refine iL h fun h=>?_;refine Qi ?_;refine cD h Yt p1 fun v20 h=>?_;refine kU h fun h=>?_;refine kU h fun h=>?_;refine kU h fun h=>?_;refine kU h fun h=>?_;refine cD h Yt p1 fun v26 h=>?_;refine kU h fun h=>?_;refine iR h fun h=>?_;refine kU h fun h=>?_;cases h;exact (.p _)
 refine iL h fun h=>?_;refine Qi ?_;refine cD h Yt p1 fun v32 h=>?_;refine kU h fun h=>?_;refine kU h fun h=>?_;refine kU h fun h=>?_;refine kU h fun h=>?_;refine cD h Yt p1 fun v38 h=>?_;refine kU h fun h=>?_;refine iR h fun h=>?_;refine kU h fun h=>?_;cases h;exact (.p _)
def Y9 (N:Nat) (s_0:List UInt8):Nat→Int→Option (List UInt8)
 | 0,_=>none
 | n+1,i13=>
  cond (Q5 .lss i13 (s_0.length:Int))
  ((idx s_0 i13).bind fun b15=>
  cond (Q5 .eql (b15.toNat:Int) 32)
  (cond (decide (0≤i13)) (cond (Nat.ble i13.toNat s_0.length&&Nat.ble s_0.length s_0.length) (some ((s_0.take s_0.length).drop i13.toNat)) none) none)
  (Y9 N s_0 n (wrap .i64 (i13+1))))
  (some [])
def Zl (N:Nat) (s_0:List UInt8):Option (List UInt8):=
 Y9 N s_0 N 0
theorem Gx {N} {s_0} {r} (h:Zl N s_0=some r):pU 14 [.str s_0] (.str r):=by
 refine Q3 k14 ?_;unfold Zl at h;refine lpH (τ:=Int) (fun i13=>(iS s_0 :: .any :: .any::iI i13::a8 (a4 (.any :: [])):List AV)) (fun n0 i13=>Y9 N s_0 n0 i13) (0) h fun n0 i13 h=>?_
 first | rw [Y9] at h | simp only [Y9] at h
 rw [cX] at h;refine iR h fun h=>?_;refine xB h fun b15 h=>?_;apply iU h<;>intro h
 ·refine kU h fun h=>?_;refine kU h fun h=>?_;cases h;exact (.p _)
 show Exists _;exact ⟨(n0,(wrap .i64 (i13+1))),h,Lg _,(fun i=>i),Yq⟩
def Yw (N:Nat) (e:Qa):Option Bool:=
 (Wb N e.Packet (⟨0,false,false,0,0,[],[],false,0,[],false,[],false,[],false,(⟨[],[],0,false,[]⟩:U5),false,0,[],[],[]⟩:Qp)).bind fun v1=>
 cond v1
 (cond (((e.Msg.Type':Int) == 0)&&(((e.Msg.Flags.Dup:Bool) == false)&&(((e.Msg.Flags.QoS:Int) == 0)&&(((e.Msg.Flags.Retain:Bool) == false)&&(((e.Msg.Flags.Will:Bool) == false)&&(((e.Msg.Flags.Clean:Bool) == false)&&(((e.Msg.Flags.Type':Int) == 0)&&(((e.Msg.Gateway:Int) == 0)&&(((e.Msg.Radius:Int) == 0)&&(((e.Msg.Time:Int) == 0)&&(((e.Msg.Timed:Bool) == false)&&(((e.Msg.TopicID:Int) == 0)&&(((e.Msg.MsgID:Int) == 0)&&(((e.Msg.Code:Int) == 0)&&(((e.Msg.Name:List UInt8) == [])&&(((e.Msg.Data:List UInt8) == [])&&true))))))))))))))))
 ((W9 N e.Frame (⟨0,0,[],[]⟩:Zg)).bind fun v5=>
 some v5)
 (some false))
 (some false)
theorem Q16 {N} {e} {r} (h:Yw N e=some r):pU 40 [.agg (Qa.cells e)] (.bool r):=by
 refine Q3 k40 ?_;unfold Yw at h;refine cP h Q0r (.cons (Ar (Yo (f2_ (f1_ (.cons (.p _) p5))))) (.cons (Ar (Yo (f2_ (f1_ (.cons (.nil _) (f2_ (.cons (.nil _) (.cons (.nil _) (.cons (.nil _) .nil))))))))) .nil)) fun v1 h=>?_;refine iR h fun h=>?_;refine Qlm (ks := [0,2,0,2,2,2,0,0,0,0,2,0,0,0,1,1]) (xs := [iI e.Msg.Type',.p (.bool e.Msg.Flags.Dup),iI e.Msg.Flags.QoS,.p (.bool e.Msg.Flags.Retain),.p (.bool e.Msg.Flags.Will),.p (.bool e.Msg.Flags.Clean),iI e.Msg.Flags.Type',iI e.Msg.Gateway,iI e.Msg.Radius,iI e.Msg.Time,.p (.bool e.Msg.Timed),iI e.Msg.TopicID,iI e.Msg.MsgID,iI e.Msg.Code,iS e.Msg.Name,iS e.Msg.Data]) (ys := [iI 0,.p (.bool false),iI 0,.p (.bool false),.p (.bool false),.p (.bool false),iI 0,iI 0,iI 0,iI 0,.p (.bool false),iI 0,iI 0,iI 0,iS [],iS []]) (b:=(((e.Msg.Type':Int) == 0)&&(((e.Msg.Flags.Dup:Bool) == false)&&(((e.Msg.Flags.QoS:Int) == 0)&&(((e.Msg.Flags.Retain:Bool) == false)&&(((e.Msg.Flags.Will:Bool) == false)&&(((e.Msg.Flags.Clean:Bool) == false)&&(((e.Msg.Flags.Type':Int) == 0)&&(((e.Msg.Gateway:Int) == 0)&&(((e.Msg.Radius:Int) == 0)&&(((e.Msg.Time:Int) == 0)&&(((e.Msg.Timed:Bool) == false)&&(((e.Msg.TopicID:Int) == 0)&&(((e.Msg.MsgID:Int) == 0)&&(((e.Msg.Code:Int) == 0)&&(((e.Msg.Name:List UInt8) == [])&&(((e.Msg.Data:List UInt8) == [])&&true))))))))))))))))) rfl ?_;refine iR h fun h=>?_;refine cP h Q11 (.cons q4 (.cons q4n .nil)) fun v5 h=>?_;cases h;exact (.p _)
def Xp (_N:Nat) (k:Int) (l:List Z8):Option Int:=cond (Nat.beq l.length 0&&decide (k=3)) (some 0) none
theorem Q4w {N k l r} (h:Xp N k l=some r):pU 41 [.int .i64 k,.slice 4 (Q8 Z8.cells l)] (.int .i64 r):=by
 unfold Xp at h
 cases hq:(Nat.beq l.length 0&&decide (k=3)) with
 | false=>rw [hq] at h;cases h
 | true=>
  rw [hq] at h;cases h;rw [Lb] at hq;have h1:l = []:=List.length_eq_zero_iff.1 (Nu hq.1);have h2:=Aa hq.2;subst h1;subst h2;exact Q23 Qfo (N:=4000) (d:=60) (by kernel_rfl)
def Y8 (N:Nat) (s_0:List UInt8):Nat→Int→Int→Option Int
 | 0,_,_=>none
 | n+1,n9,i10=>
  cond (Q5 .lss i10 (s_0.length:Int))
  ((idx s_0 i10).bind fun b12=>
  Y8 N s_0 n (orI .u64 (Qh7 .u64 n9 8) (wrap .u64 (b12.toNat:Int))) (wrap .i64 (i10+1)))
  (some n9)
def Wi (N:Nat) (s_0:List UInt8):Option Int:=
 Y8 N s_0 N 0 0
theorem Q46 {N} {s_0} {r} (h:Wi N s_0=some r):pU 105 [.str s_0] (.int .u64 r):=by
 refine Q3 Z4m ?_;unfold Wi at h;refine lpH (τ:=Int×Int) (fun ⟨n9,i10⟩=>(iS s_0 :: .any :: .any::iW n9::iI i10::a8 (a4 (a2 ([]))):List AV)) (fun n0 ⟨n9,i10⟩=>Y8 N s_0 n0 n9 i10) (0,0) h fun n0 ⟨n9,i10⟩ h=>?_
 first | rw [Y8] at h | simp only [Y8] at h
 rw [cX] at h;refine iR h fun h=>?_;refine xB h fun b12 h=>?_;show Exists _;exact ⟨(n0,(orI .u64 (Qh7 .u64 n9 8) (wrap .u64 (b12.toNat:Int))),(wrap .i64 (i10+1))),h,Lg _,(fun i=>i),Yq⟩
def Ww (N:Nat) (name:List UInt8):Option (Int×Bool):=
 cond (Q5 .neq (name.length:Int) 2)
 (some (0,false))
 ((Yy N name).bind fun v2=>
 cond (!v2)
 (some (0,false))
 ((Wi N name).bind fun v5=>
 some ((wrap .i64 v5),true)))
theorem Q4o {N} {name} {r} (h:Ww N name=some r):pU 82 [.str name] (.tuple [.int .i64 r.1,.bool r.2]):=by
 refine Q3 k82 ?_;unfold Ww at h;rw [cX] at h;refine iL2 h fun h=>?_;refine cP h Vk p1 fun v2 h=>?_;refine iL2 h fun h=>?_;refine cP h Q46 p1 fun v5 h=>?_;obtain rfl:=Qt h;exact u2
def Qy3:List PV := [.int .i64 23,.bool false,.int .i64 0,.bool false,.bool false,.bool false,.int .i64 0,.int .i64 0,.int .i64 0,.int .i64 0,.bool false,.int .i64 0,.int .i64 0,.int .i64 0,.str [],.str []]
def G9 (_N:Nat) (m:Vi):Option (List UInt8×Int):=cond (Q84 (Vi.cells m) Qy3) (some ([2,23],0)) none
theorem Q4m {N m r} (h:G9 N m=some r):pU 179 [.agg (Vi.cells m)] (.tuple [.str r.1,.int .i64 r.2]):=by
 unfold G9 at h
 cases hq:Q84 (Vi.cells m) Qy3 with
 | false=>rw [hq] at h;cases h
 | true=>rw [hq] at h;cases h;rw [Q2w _ _ hq];exact Q23 Qfo (N:=4000) (d:=60) (by kernel_rfl)
def Yd (N:Nat) (d:Qm):Nat→(List UInt8)→Int→Option (List UInt8)
 | 0,_,_=>none
 | n+1,out13,i14=>
  cond (Q5 .lss i14 ((Q8 Wz.cells d.Hops).length:Int))
  ((idx d.Hops i14).bind fun y16=>
  cond (Nat.ble (out13.length + [UInt8.ofNat (wrap .u8 (wrap .i64 ((y16.Node.length:Int)+3))).toNat,UInt8.ofNat (Int.toNat 254),UInt8.ofNat (wrap .u8 y16.Radius).toNat].length) 4611686018427387904) (cond (Nat.ble ((out13 ++ [UInt8.ofNat (wrap .u8 (wrap .i64 ((y16.Node.length:Int)+3))).toNat,UInt8.ofNat (Int.toNat 254),UInt8.ofNat (wrap .u8 y16.Radius).toNat]).length+y16.Node.length) 4611686018427387904) (Yd N d n ((out13 ++ [UInt8.ofNat (wrap .u8 (wrap .i64 ((y16.Node.length:Int)+3))).toNat,UInt8.ofNat (Int.toNat 254),UInt8.ofNat (wrap .u8 y16.Radius).toNat])++y16.Node) (wrap .i64 (i14+1))) none) none)
  ((G9 N d.Msg).bind fun v20=>
  cond (Nat.ble (out13.length+v20.1.length) 4611686018427387904) (some (out13++v20.1)) none)
def Wy (N:Nat) (d:Qm):Option (List UInt8):=
 Yd N d N [] 0
theorem Q4g {N} {d} {r} (h:Wy N d=some r):pU 136 [.agg (Qm.cells d)] (.str r):=by
 refine Q3 Z2q ?_;unfold Wy at h;refine lpH (τ:=(List UInt8)×Int) (fun ⟨out13,i14⟩=>(.any :: .ptr 0 0 :: .any::iS out13::iI i14::a16 (a16 (a4 (a2 (.any :: [])))):List AV)) (fun n0 ⟨out13,i14⟩=>Yd N d n0 out13 i14) ([],0) h fun n0 ⟨out13,i14⟩ h=>?_
 first | rw [Yd] at h | simp only [Yd] at h
 rw [cX] at h;apply iU h<;>intro h
 ·refine xR h fun y16 h=>?_;refine kU h fun h=>?_;refine kU h fun h=>?_;show Exists _;exact ⟨(n0,((out13 ++ [UInt8.ofNat (wrap .u8 (wrap .i64 ((y16.Node.length:Int)+3))).toNat,UInt8.ofNat (Int.toNat 254),UInt8.ofNat (wrap .u8 y16.Radius).toNat])++y16.Node),(wrap .i64 (i14+1))),h,Lg _,(fun i=>i),Yq⟩
 refine cP h Q4m (.cons (Ar (f8_ (f2_ (.cons (.p _) p5)))) .nil) fun v20 h=>?_;refine kU h fun h=>?_;cases h;exact (.p _)
def Ju (_N:Nat) (l:Xd):Option Bool:=
 cond (Q5 .geq l.MaxPacket 16)
 (cond (Q5 .leq l.MaxPacket 1048576)
 (cond (Q5 .geq l.MaxDepth 0)
 (some (Q5 .leq l.MaxDepth 32))
 (some false))
 (some false))
 (some false)
theorem Q4n {N} {l} {r} (h:Ju N l=some r):pU 133 [.agg (Xd.cells l)] (.bool r):=by
 refine Q3 Z9f ?_;unfold Ju at h;rw [cX] at h;refine iR h fun h=>?_;refine iR h fun h=>?_;exact iB h
def Vy (_N:Nat) (h_0:Wz):Option Bool:=
 cond (Q5 .geq h_0.Radius 0)
 (cond (Q5 .leq h_0.Radius 3)
 (cond (Q5 .geq (h_0.Node.length:Int) 1)
 (some (Q5 .leq (h_0.Node.length:Int) 32))
 (some false))
 (some false))
 (some false)
theorem Q64 {N} {h_0} {r} (h:Vy N h_0=some r):pU 134 [.agg (Wz.cells h_0)] (.bool r):=by
 refine Q3 Z3u ?_;unfold Vy at h;rw [cX] at h;refine iR h fun h=>?_;refine iR h fun h=>?_;exact iB h
def G0 (_N:Nat) (m:Vi):Option Int:=cond (Q84 (Vi.cells m) [.int .i64 23,.bool false,.int .i64 0,.bool false,.bool false,.bool false,.int .i64 0,.int .i64 0,.int .i64 0,.int .i64 0,.bool false,.int .i64 0,.int .i64 0,.int .i64 0,.str [],.str []]) (some 0) none
theorem Q4x {N m r} (h:G0 N m=some r):pU 135 [.agg (Vi.cells m)] (.int .i64 r):=by
 unfold G0 at h
 cases hq:Q84 (Vi.cells m) [.int .i64 23,.bool false,.int .i64 0,.bool false,.bool false,.bool false,.int .i64 0,.int .i64 0,.int .i64 0,.int .i64 0,.bool false,.int .i64 0,.int .i64 0,.int .i64 0,.str [],.str []] with
 | false=>rw [hq] at h;cases h
 | true=>rw [hq] at h;cases h;rw [Q2w _ _ hq];exact Q23 Qfo (N:=4000) (d:=60) (by kernel_rfl)
def Yb (N:Nat) (d:Qm) (l:Xd):Nat→Int→Option Int
 | 0,_=>none
 | n+1,i18=>
  cond (Q5 .lss i18 ((Q8 Wz.cells d.Hops).length:Int))
  ((idx d.Hops i18).bind fun y20=>
  (Vy N y20).bind fun v22=>
  cond (!v22)
  (some 2)
  (Yb N d l n (wrap .i64 (i18+1))))
  ((G0 N d.Msg).bind fun v25=>
  cond (Q5 .eql v25 0)
  ((Wy N d).bind fun v28=>
  cond (Q5 .gtr (v28.length:Int) l.MaxPacket)
  (some 4)
  (some v25))
  (some v25))
def V0 (N:Nat) (d:Qm) (l:Xd):Option Int:=
 (Ju N l).bind fun v1=>
 cond (!v1)
 (some 2)
 (cond (Q5 .gtr ((Q8 Wz.cells d.Hops).length:Int) 4)
 (some 12)
 (Yb N d l N 0))
theorem Q4y {N} {d} {l} {r} (h:V0 N d l=some r):pU 106 [.agg (Qm.cells d),.agg (Xd.cells l)] (.int .i64 r):=by
 refine Q3 Zbd ?_;unfold V0 at h;rw [cX] at h;refine cP h Q4n (.cons q2 .nil) fun v1 h=>?_;refine iL h fun h=>?_;refine iL h fun h=>?_;refine lpH (τ:=Int) (fun i18=>(.any :: .any :: .ptr 0 0 :: .ptr 1 0 :: .any::iI i18::a16 (a16 (a4 ([]))):List AV)) (fun n0 i18=>Yb N d l n0 i18) (0) h fun n0 i18 h=>?_
 first | rw [Yb] at h | simp only [Yb] at h
 rw [cX] at h;apply iU h<;>intro h
 ·refine xR h fun y20 h=>?_;refine cP h Q64 (.cons q2 .nil) fun v22 h=>?_;refine iL h fun h=>?_;show Exists _;exact ⟨(n0,(wrap .i64 (i18+1))),h,Lg _,(fun i=>i),Yq⟩
 refine cP h Q4x (.cons (Ar (f8_ (f2_ (.cons (.p _) p5)))) .nil) fun v25 h=>?_;refine Qi ?_;refine iR h fun h=>?_;refine cD h Q4g (.cons (Ar (f8_ (f2_ (f1_ (.cons (.p _) p5))))) .nil) fun v28 h=>?_;exact iB h
def Uq (_N:Nat):Option (Xd):=
 some (⟨1048576,32⟩:Xd)
theorem Q3j {N} {r} (h:Uq N=some r):pU 107 [] (.agg (Xd.cells r)):=by
 refine Q3 Zde ?_;unfold Uq at h;obtain rfl:=Qt h;exact q2
def Vh (N:Nat) (l:List Wz):Option Bool:=
 (Uq N).bind fun v1=>
 (V0 N (⟨l,(⟨23,(⟨false,0,false,false,false,0⟩:Qv),0,0,0,false,0,0,0,[],[]⟩:Vi)⟩:Qm) v1).bind fun v3=>
 some (Q5 .eql v3 0)
theorem Q5a {N} {l} {r} (h:Vh N l=some r):pU 83 [.slice 2 (Q8 Wz.cells l)] (.bool r):=by
 refine Q3 k83 ?_;unfold Vh at h;rw [cX] at h;refine Qi ?_;refine cD h Q3j p0 fun v1 h=>?_;refine cD h Q4y (.cons (Ar (f8_ (f2_ (f1_ (.cons (.p _) p5))))) p1) fun v3 h=>?_;cases h;exact (.p _)
def W5 (N:Nat) (e:Qa):Option Bool:=
 cond (Q5 .neq e.Proto 3)
 (cond (Q5 .eql e.Type' 0)
 (some (Q5 .eql ((Q8 Wz.cells e.Hops).length:Int) 0))
 (some false))
 ((Ww N e.Topic).bind fun v3=>
 cond (Q5 .geq e.Type' 0)
 (cond (Q5 .leq e.Type' 2)
 ((Vh N e.Hops).bind fun v7=>
 cond v7
 (cond (Q5 .neq e.Type' 2)
 (some true)
 (some v3.2))
 (some false))
 (some false))
 (some false))
theorem Q6d {N} {e} {r} (h:W5 N e=some r):pU 39 [.agg (Qa.cells e)] (.bool r):=by
 refine Q3 k39 ?_;unfold W5 at h;rw [cX] at h;apply iU h<;>intro h
 ·exact iB h
 refine cP h Q4o p1 fun v3 h=>?_;refine iR h fun h=>?_;refine iR h fun h=>?_;refine cP h Q5a p1 fun v7 h=>?_;refine iR h fun h=>?_;exact iB h
def Zd (N:Nat) (e:Qa) (s66:Bool):Option Int:=
 cond s66
 (some 2)
 ((Xp N 3 e.Props).bind fun v76=>
 cond (Q5 .neq v76 0)
 (some 9)
 (some 0))
def Qj (N:Nat) (e:Qa) (s44:Bool):Option Int:=
 cond s44
 (some 2)
 (cond (Q5 .lss e.Channel 0)
 (Zd N e true)
 (cond (Q5 .gtr e.Channel 65535)
 (Zd N e true)
 (cond (Q5 .neq e.Channel 0)
 (cond (Q5 .neq e.Proto 4)
 (Zd N e true)
 ((Yw N e).bind fun v71=>
 Zd N e (!v71)))
 ((Yw N e).bind fun v73=>
 Zd N e (!v73)))))
def Yk (N:Nat) (k4:Bool→Option Int) (e:Qa) (s52:Bool):Option Int:=
 cond s52
 (k4 s52)
 ((W5 N e).bind fun v55=>
 k4 (!v55))
def Y5 (N:Nat) (k4:Bool→Option Int) (e:Qa) (s47:Bool):Option Int:=
 cond s47
 (k4 s47)
 (cond (Q5 .gtr ((Q8 Z8.cells e.Props).length:Int) 0)
 (Yk N k4 e (Q5 .neq e.Proto 2))
 (Yk N k4 e false))
def Zc (N:Nat) (e:Qa) (acked20:Bool) (s26:Bool):Option Int:=
 cond s26
 (some 2)
 (cond e.Dup
 (cond (!acked20)
 (Y5 N (Qj N e) e (Q5 .neq e.Proto 3))
 (Y5 N (Qj N e) e false))
 (Y5 N (Qj N e) e false))
def Zp (N:Nat) (e:Qa) (least17:Int) (acked20:Bool):Option Int:=
 cond (Q5 .lss e.QoS least17)
 (Zc N e acked20 true)
 (cond (Q5 .gtr e.QoS 2)
 (Zc N e acked20 true)
 (cond (Q5 .lss e.ID 0)
 (Zc N e acked20 true)
 (cond (Q5 .gtr e.ID 65535)
 (Zc N e acked20 true)
 (Zc N e acked20 (!((Q5 .neq e.ID 0) == acked20))))))
def Yi (N:Nat) (e:Qa) (least17:Int):Option Int:=
 cond (Q5 .eql e.QoS 1)
 (Zp N e least17 true)
 (Zp N e least17 (Q5 .eql e.QoS 2))
def Zo (N:Nat) (e:Qa) (s9:Bool):Option Int:=
 cond s9
 (some 2)
 ((Yy N e.Topic).bind fun v13=>
 cond (!v13)
 (some 10)
 (cond (Q5 .eql e.Proto 3)
 (Yi N e (-1))
 (Yi N e 0)))
def Zt (N:Nat) (e:Qa):Option Int:=
 cond (Q5 .lss e.Proto 1)
 (Zo N e true)
 (cond (Q5 .gtr e.Proto 4)
 (Zo N e true)
 (Zo N e (Q5 .neq e.Kind 1)))
theorem Q3q {N} {e} {r} (h:Zt N e=some r):pU 15 [.agg (Qa.cells e)] (.int .i64 r):=by
 refine Q3 k15 ?_;unfold Zt at h;rw [cX] at h;refine Qbh ?_;refine Gu (σ:=Bool) (fun s9=>(.any :: .ptr 0 0::a8 (a4 (a2 (.any :: .p (.bool s9)::a16 (a16 (a16 (a16 (a16 (a8 (a4 (a2 (.any :: []))))))))))):List AV)) (fun _=>(.cells (Q18 e ([])) :: []:List AObj)) (fun s9=>Zo N e s9=some r) (fun _ _=>Lj _) ?_ ?_
 ·apply iU h<;>intro h
  ·show Exists _;exact ⟨(true),h,(fun i=>i),Yq⟩
  apply iU h<;>intro h
  ·show Exists _;exact ⟨(true),h,(fun i=>i),Yq⟩
  show Exists _;exact ⟨((Qlt .neq e.Kind 1)),h,(fun i=>i),Yq⟩
 rintro s9 h
 unfold Zo at h;rw [cX] at h;refine iL h fun h=>?_;refine cP h Vk p1 fun v13 h=>?_;refine iL h fun h=>?_;refine Gu (σ:=Int) (fun least17=>(.any :: .ptr 0 0 :: .any::iI least17::a16 (a16 (a16 (a16 (a16 (a16 (a8 (a4 (.any :: [])))))))):List AV)) (fun _=>(.cells (Q18 e ([])) :: []:List AObj)) (fun least17=>Yi N e least17=some r) (fun _ _=>Lj _) ?_ ?_
 ·apply iU h<;>intro h
  ·show Exists _;exact ⟨((-1)),h,(fun i=>i),Yq⟩
  show Exists _;exact ⟨(0),h,(fun i=>i),Yq⟩
 rintro least17 h
 unfold Yi at h;rw [cX] at h;refine Gu (σ:=Bool) (fun acked20=>(.any :: .ptr 0 0 :: .any::iI least17 :: .p (.bool acked20)::a16 (a16 (a16 (a16 (a16 (a16 (a8 (a4 ([])))))))):List AV)) (fun _=>(.cells (Q18 e ([])) :: []:List AObj)) (fun acked20=>Zp N e least17 acked20=some r) (fun _ _=>Lj _) ?_ ?_
 ·apply iU h<;>intro h
  ·show Exists _;exact ⟨(true),h,(fun i=>i),Yq⟩
  show Exists _;exact ⟨((Qlt .eql e.QoS 2)),h,(fun i=>i),Yq⟩
 rintro acked20 h
 unfold Zp at h;rw [cX] at h;refine Gu (σ:=Bool) (fun s26=>(.any :: .ptr 0 0 :: .any :: .any :: .p (.bool acked20)::a16 (a8 (a4 (.p (.bool s26)::a16 (a16 (a16 (a16 (a8 (a4 (a2 (.any :: [])))))))))):List AV)) (fun _=>(.cells (Q18 e ([])) :: []:List AObj)) (fun s26=>Zc N e acked20 s26=some r) (fun _ _=>Lj _) ?_ ?_
 ·apply iU h<;>intro h
  ·show Exists _;exact ⟨(true),h,(fun i=>i),Yq⟩
  apply iU h<;>intro h
  ·show Exists _;exact ⟨(true),h,(fun i=>i),Yq⟩
  apply iU h<;>intro h
  ·show Exists _;exact ⟨(true),h,(fun i=>i),Yq⟩
  apply iU h<;>intro h
  ·show Exists _;exact ⟨(true),h,(fun i=>i),Yq⟩
  show Exists _;exact ⟨((!((Qlt .neq e.ID 0) == acked20))),h,(fun i=>i),Yq⟩
 rintro s26 h
 unfold Zc at h;rw [cX] at h;refine iL h fun h=>?_;refine Gu (σ:=Bool) (fun s44=>(.any :: .ptr 0 0::a16 (a16 (a16 (a8 (a2 (.p (.bool s44)::a16 (a16 (a16 (a4 ([]))))))))):List AV)) (fun _=>(.cells (Q18 e ([])) :: []:List AObj)) (fun s44=>Qj N e s44=some r) (fun _ _=>Lj _) ?_ ?_
 ·refine Gu (σ:=Bool) (fun s47=>(.any :: .ptr 0 0::a16 (a16 (a16 (a8 (a2 (.p (.bool s47)::a16 (a16 (a16 (a4 ([]))))))))):List AV)) (fun _=>(.cells (Q18 e ([])) :: []:List AObj)) (fun s47=>Y5 N (Qj N e) e s47=some r) (fun _ _=>Lj _) ?_ ?_
  ·apply iU h<;>intro h
   ·apply iU h<;>intro h
    ·show Exists _;exact ⟨((Qlt .neq e.Proto 3)),h,(fun i=>i),Yq⟩
    show Exists _;exact ⟨(false),h,(fun i=>i),Yq⟩
   show Exists _;exact ⟨(false),h,(fun i=>i),Yq⟩
  rintro s47 h
  unfold Y5 at h;rw [cX] at h;apply iU h<;>intro h
  ·show Exists _;exact ⟨(s47),h,(fun i=>i),Yq⟩
  refine Gu (σ:=Bool) (fun s52=>(.any :: .ptr 0 0::a16 (a16 (a16 (a8 (a2 (.p (.bool s52)::a16 (a16 (a16 (a4 ([]))))))))):List AV)) (fun _=>(.cells (Q18 e ([])) :: []:List AObj)) (fun s52=>Yk N (Qj N e) e s52=some r) (fun _ _=>Lj _) ?_ ?_
  ·apply iU h<;>intro h
   ·show Exists _;exact ⟨((Qlt .neq e.Proto 2)),h,(fun i=>i),Yq⟩
   show Exists _;exact ⟨(false),h,(fun i=>i),Yq⟩
  rintro s52 h
  unfold Yk at h;apply iU h<;>intro h
  ·show Exists _;exact ⟨(s52),h,(fun i=>i),Yq⟩
  refine cP h Q6d (.cons (Ar (Yo (Yo (Yo (f2_ (f1_ (.cons (.p _) p5))))))) .nil) fun v55 h=>?_;show Exists _;exact ⟨((!v55)),h,(fun i=>i),Yq⟩
 rintro s44 h
 unfold Qj at h;rw [cX] at h;refine iL h fun h=>?_;refine Gu (σ:=Bool) (fun s66=>(.any :: .ptr 0 0::a16 (a16 (a16 (a16 (a16 (a2 (.p (.bool s66)::a16 (a8 (a4 ([]))))))))):List AV)) (fun _=>(.cells (Q18 e ([])) :: []:List AObj)) (fun s66=>Zd N e s66=some r) (fun _ _=>Lj _) ?_ ?_
 ·apply iU h<;>intro h
  ·show Exists _;exact ⟨(true),h,(fun i=>i),Yq⟩
  apply iU h<;>intro h
  ·show Exists _;exact ⟨(true),h,(fun i=>i),Yq⟩
  apply iU h<;>intro h
  ·apply iU h<;>intro h
   ·show Exists _;exact ⟨(true),h,(fun i=>i),Yq⟩
   refine cP h Q16 (.cons (Ar (Yo (Yo (Yo (f2_ (f1_ (.cons (.p _) p5))))))) .nil) fun v71 h=>?_;show Exists _;exact ⟨((!v71)),h,(fun i=>i),Yq⟩
  refine cP h Q16 (.cons (Ar (Yo (Yo (Yo (f2_ (f1_ (.cons (.p _) p5))))))) .nil) fun v73 h=>?_;show Exists _;exact ⟨((!v73)),h,(fun i=>i),Yq⟩
 rintro s66 h
 unfold Zd at h;rw [cX] at h;refine iL h fun h=>?_;refine cP h Q4w p2 fun v76 h=>?_;exact iB h
def Zn (N:Nat) (t:List Qd) (client:List UInt8) (e:Qa) (proto:Int):Nat→Int→(List Q1)→Reg→Option Bool
 | 0,_,_,_=>none
 | n+1,i98,c99,R100=>
  cond (Q5 .lss i98 ((Q8 Qd.cells t).length:Int))
  ((idx t i98).bind fun y102=>
  cond (Q5 .eql y102.ID 0)
  ((idx t i98).bind fun y109=>
  (idx t i98).bind fun y111=>
  (Gz N R100 y109.Client y111.Name).bind fun v113=>
  (idx t i98).bind fun y115=>
  (idx t i98).bind fun y117=>
  (Zk N (⟨c99⟩:Q2) y115.Client y117.Name).bind fun v119=>
  Zn N t client e proto n (wrap .i64 (i98+1)) v119.2.L v113.2)
  ((idx t i98).bind fun y127=>
  (idx t i98).bind fun y129=>
  (idx t i98).bind fun y131=>
  (Jy N R100 y127.Client y129.Name y131.ID).bind fun v133=>
  (idx t i98).bind fun y135=>
  (idx t i98).bind fun y137=>
  (idx t i98).bind fun y139=>
  (Zh N (⟨c99⟩:Q2) y135.Client y137.Name y139.ID).bind fun v141=>
  Zn N t client e proto n (wrap .i64 (i98+1)) v141.2.L v133.2))
  ((Q0f N R100 client e proto).bind fun v143=>
  cond (Q5 .neq v143.1.2 0)
  ((Q09 N v143.2 client e proto).bind fun v146=>
  cond (!v146.1)
  ((Zr N v143.1.1 (⟨0,0,[],[],0,false,false,0,[],0,[],0,(⟨0,false,false,0,0,[],[],false,0,[],false,[],false,[],false,(⟨[],[],0,false,[]⟩:U5),false,0,[],[],[]⟩:Qp),(⟨0,(⟨false,0,false,false,false,0⟩:Qv),0,0,0,false,0,0,0,[],[]⟩:Vi),(⟨0,0,[],[]⟩:Zg)⟩:Qa)).bind fun v149=>
  some v149)
  (some false))
  (cond (Q5 .eql proto e.Proto)
  ((Zr N v143.1.1 e).bind fun v152=>
  some v152)
  ((Y3 N e).bind fun v154=>
  (Y3 N v143.1.1).bind fun v156=>
  cond (Q5 .eql v143.1.1.Proto proto)
  (cond (Q0k .neq v154 v156)
  ((Zl N v154).bind fun v160=>
  (Zl N v156).bind fun v162=>
  cond (Q0k .eql v160 v162)
  ((Zt N v143.1.1).bind fun v165=>
  some (Q5 .eql v165 0))
  (some false))
  (some false))
  (some false))))
def Xh (N:Nat) (t:List Qd) (client:List UInt8) (e:Qa) (proto:Int):Option Bool:=
 (Q25 N).bind fun v1=>
 cond (!v1)
 (some false)
 ((Ub N t).bind fun v4=>
 cond (!v4)
 (some true)
 (cond (Q5 .gtr (client.length:Int) 100)
 (some true)
 ((V2 N e).bind fun v8=>
 cond (!v8)
 (some true)
 (Zn N t client e proto N 0 [] []))))
theorem Q2m {N} {t} {client} {e} {proto} {r} (h:Xh N t client e proto=some r):pU 3 [.slice 3 (Q8 Qd.cells t),.str client,.agg (Qa.cells e),.int .i64 proto] (.bool r):=by
 refine Q3 k3 ?_;unfold Xh at h;rw [cX] at h;refine cP h Q4z p0 fun v1 h=>?_;refine iL h fun h=>?_;refine cP h Q4h p1 fun v4 h=>?_;refine iL h fun h=>?_;refine iL h fun h=>?_;refine cP h Q3e (.cons (Ar (Yo (Yo (Yo (f2_ (f1_ (.cons (.p _) p5))))))) .nil) fun v8 h=>?_;refine iL h fun h=>?_;refine Qe k9 ?_;refine Qsq Qwn 1 rfl ?_;refine Qe k24 ?_;refine lpC (τ:=Int×(List Q1)×Reg) (fun ⟨i98,_,_⟩=>(.p (.slice 3 (Q8 Qd.cells t))::a2 (.any :: .ptr 1 0 :: .ptr 3 0::iI i98::a16 (a16 (a16 (a16 (a8 (a2 ([]))))))):List AV)) (fun ⟨_,c99,R100⟩=>(.cells (Q18 e ([])) :: .dead :: .dead :: .cells (.p (.slice 2 (Q8 Q1.cells c99)) :: []) :: .ext R100 1 :: []:List AObj)) (fun n0 ⟨i98,c99,R100⟩=>Zn N t client e proto n0 i98 c99 R100) (0,[],[]) h (rho [0,1,2,3,2]) ⟨(rE rfl <| rW <| rA <| rE rfl <| rE rfl <| rE rfl <| rX <| rX <| rX <| rX <| rX <| rX <| rX <| rX <| rX <| rW <| rN),(hE rfl <| hD <| hD <| hC rfl (rF (.nil _) <| rN) <| hE rfl <| hN),rfl,rfl,(roE rfl <| roE rfl <| roE rfl <| roE rfl <| roE rfl <| roN)⟩ fun n0 ⟨i98,c99,R100⟩ h=>?_
 first | rw [Zn] at h | simp only [Zn] at h
 rw [cX,cY] at h;apply iU h<;>intro h
 ·refine xR h fun y102 h=>?_;apply iU h<;>intro h
  ·refine Ji 11 rfl rfl ?_;refine xR h fun y109 h=>?_;refine xR h fun y111 h=>?_;refine cRg h Qa4 (b:=4) rfl p2 fun v113 h=>?_;refine Qi ?_;refine xR h fun y115 h=>?_;refine xR h fun y117 h=>?_;refine dM h Q00 rfl p2 fun v119 h=>?_;show Exists _;exact ⟨(n0,(wrap .i64 (i98+1)),v119.2.L,v113.2),h,Lg _,(rho [0,1,2,3,5]),Yq⟩
  refine Ji 16 rfl rfl ?_;refine xR h fun y127 h=>?_;refine xR h fun y129 h=>?_;refine xR h fun y131 h=>?_;refine cRg h Q9d (b:=4) rfl p3 fun v133 h=>?_;refine Qi ?_;refine xR h fun y135 h=>?_;refine xR h fun y137 h=>?_;refine xR h fun y139 h=>?_;refine dM h Gr rfl p3 fun v141 h=>?_;show Exists _;exact ⟨(n0,(wrap .i64 (i98+1)),v141.2.L,v133.2),h,Lg _,(rho [0,1,2,3,5]),Yq⟩
 refine cRg h Q9i (b:=4) rfl (.cons (.p _) (.cons (Ar (Yo (Yo (Yo (f2_ (f1_ (.cons (.p _) p5))))))) p1)) fun v143 h=>?_;apply iU h<;>intro h
 ·refine cRg h Qe8 (b:=5) rfl (.cons (.p _) (.cons (Ar (Yo (Yo (Yo (f2_ (f1_ (.cons (.p _) p5))))))) p1)) fun v146 h=>?_;refine iR h fun h=>?_;refine cP h Q0t (.cons (Ar (Yo (Yo (Yo (f2_ (f1_ (.cons (.p _) p5))))))) (.cons (Ar (f8_ (.cons (.nil _) (.cons (.p _) (.cons (.nil _) (Yo (f4_ (.cons (.nil _) (f2_ (.cons (.nil _) (.cons (.nil _) (.cons (.nil _) (Yo (f2_ (f1_ (.cons (.nil _) .nil)))))))))))))))) .nil)) fun v149 h=>?_;cases h;exact (.p _)
 apply iU h<;>intro h
 ·refine cP h Q0t (.cons (Ar (Yo (Yo (Yo (f2_ (f1_ (.cons (.p _) p5))))))) (.cons (Ar (Yo (Yo (Yo (f2_ (f1_ (.cons (.p _) p5))))))) .nil)) fun v152 h=>?_;cases h;exact (.p _)
 refine Qi ?_;refine cD h Q19 (.cons (Ar (Yo (Yo (Yo (f2_ (f1_ (.cons (.p _) p5))))))) .nil) fun v154 h=>?_;refine cD h Q19 (.cons (Ar (Yo (Yo (Yo (f2_ (f1_ (.cons (.p _) p5))))))) .nil) fun v156 h=>?_;refine iR h fun h=>?_;refine iR h fun h=>?_;refine cP h Gx p1 fun v160 h=>?_;refine cP h Gx p1 fun v162 h=>?_;refine iR h fun h=>?_;refine cP h Q3q (.cons (Ar (Yo (Yo (Yo (f2_ (f1_ (.cons (.p _) p5))))))) .nil) fun v165 h=>?_;cases h;exact (.p _)
end
end
end Go.Av
