/- Part of FrommqttCalls: the law returns true; no condition. -/
import Derived.Test.YtbcddiagcaddbaaGreatDoorLiftF2
set_option linter.all false
open Go.IntKind (wrap)
namespace Go.Av
noncomputable section
open Go.Proofs
set_option maxRecDepth 100000
set_option maxHeartbeats 4000000
attribute [local irreducible] Q06 Ue Qdu Qjw Qxl Qy1 Qj3
section
def Xl (N:Nat) (version:Int) (p:Q1):Option (Int×Int):=
 (Z7 N version).bind fun v1=>
 cond (!v1)
 (some (0,2))
 ((Ul N version p.Kind).bind fun v4=>
 cond (!v4)
 (some (0,8))
 (cond (Q4 .eql p.Kind 6)
 (some (2,0))
 (cond (Q4 .eql p.Kind 8)
 (some (2,0))
 (cond (Q4 .eql p.Kind 10)
 (some (2,0))
 (cond (Q4 .eql p.Kind 3)
 (cond (Q4 .lss p.QoS 0)
 (some (0,7))
 (cond (Q4 .gtr p.QoS 2)
 (some (0,7))
 (cond p.Dup
 (cond (Q4 .eql p.QoS 0)
 (some (0,7))
 (cond p.Retain
 (some ((wrap .i64 ((wrap .i64 ((wrap .i64 (2 * p.QoS))+8))+1)),0))
 (some ((wrap .i64 ((wrap .i64 (2 * p.QoS))+8)),0))))
 (cond p.Retain
 (some ((wrap .i64 ((wrap .i64 (2 * p.QoS))+1)),0))
 (some ((wrap .i64 (2 * p.QoS)),0))))))
 (some (0,0)))))))
theorem Q4v {N} {version} {p} {r} (h:Xl N version p=some r):pU 62 [.int .i64 version,.agg (Q1.cells p)] (.tuple [.int .i64 r.1,.int .i64 r.2]):=by
 refine Q0 k62 ?_;unfold Xl at h;rw [cX] at h;refine cP h Y9 p1 fun v1 h=>?_;refine iL2 h fun h=>?_;refine cP h Q55 p2 fun v4 h=>?_;refine iL2 h fun h=>?_;refine ifO h (fun hc7 h=>?_) (fun hc7 h=>?_)
 ·refine ifT hc7 ?_;obtain rfl:=Qi h;exact u2
 refine ifO h (fun hc8 h=>?_) (fun hc8 h=>?_)
 ·refine ifT hc8 ?_;obtain rfl:=Qi h;exact u2
 refine iL2 h fun h=>?_;refine iR2 h fun h=>?_;refine iL2 h fun h=>?_;refine iL2 h fun h=>?_;refine ifO h (fun hc13 h=>?_) (fun hc13 h=>?_)
 ·refine iL2 h fun h=>?_;refine ifT hc13 ?_;exact iB2 h
 refine ifF hc13 ?_;exact iB2 h
def Vp (N:Nat) (version:Int) (p:Q1):Option Int:=
 (Z7 N version).bind fun v1=>
 cond (!v1)
 (some 2)
 (cond (Q4 .neq p.Kind 3)
 (some 2)
 ((Xl N version p).bind fun v5=>
 cond (Q4 .neq v5.2 0)
 (some v5.2)
 ((Qk N p (⟨p.Kind,p.Dup,p.Retain,p.QoS,p.ID,p.Topic,p.Payload,false,0,[],false,[],false,[],false,(⟨[],[],0,false,[]⟩:Y5),false,0,[],[],p.Props⟩:Q1)).bind fun v8=>
 cond (!v8)
 (some 2)
 (cond (Q4 .eql p.QoS 0)
 (cond (Q4 .neq p.ID 0)
 (some 2)
 (cond (Q4 .gtr p.QoS 0)
 (cond (Q4 .lss p.ID 1)
 (some 2)
 (cond (Q4 .gtr p.ID 65535)
 (some 2)
 (cond (Q4 .eql version 4)
 (cond (Q4 .gtr ((Q7 Q6.cells p.Props).length:Int) 0)
 (some 2)
 ((Z2 N p).bind fun v18=>
 (Qr N p.Topic).bind fun v20=>
 cond (!v20)
 (cond (Q1l .eql p.Topic [])
 (cond v18.2
 (cond (!(Q4 .eql version 5))
 (some 10)
 ((Q5 N version 3 p.Props).bind fun v26=>
 some v26))
 (some 10))
 (some 10))
 ((Q5 N version 3 p.Props).bind fun v28=>
 some v28)))
 ((Z2 N p).bind fun v30=>
 (Qr N p.Topic).bind fun v32=>
 cond (!v32)
 (cond (Q1l .eql p.Topic [])
 (cond v30.2
 (cond (!(Q4 .eql version 5))
 (some 10)
 ((Q5 N version 3 p.Props).bind fun v38=>
 some v38))
 (some 10))
 (some 10))
 ((Q5 N version 3 p.Props).bind fun v40=>
 some v40)))))
 (cond (Q4 .eql version 4)
 (cond (Q4 .gtr ((Q7 Q6.cells p.Props).length:Int) 0)
 (some 2)
 ((Z2 N p).bind fun v44=>
 (Qr N p.Topic).bind fun v46=>
 cond (!v46)
 (cond (Q1l .eql p.Topic [])
 (cond v44.2
 (cond (!(Q4 .eql version 5))
 (some 10)
 ((Q5 N version 3 p.Props).bind fun v52=>
 some v52))
 (some 10))
 (some 10))
 ((Q5 N version 3 p.Props).bind fun v54=>
 some v54)))
 ((Z2 N p).bind fun v56=>
 (Qr N p.Topic).bind fun v58=>
 cond (!v58)
 (cond (Q1l .eql p.Topic [])
 (cond v56.2
 (cond (!(Q4 .eql version 5))
 (some 10)
 ((Q5 N version 3 p.Props).bind fun v64=>
 some v64))
 (some 10))
 (some 10))
 ((Q5 N version 3 p.Props).bind fun v66=>
 some v66)))))
 (cond (Q4 .gtr p.QoS 0)
 (cond (Q4 .lss p.ID 1)
 (some 2)
 (cond (Q4 .gtr p.ID 65535)
 (some 2)
 (cond (Q4 .eql version 4)
 (cond (Q4 .gtr ((Q7 Q6.cells p.Props).length:Int) 0)
 (some 2)
 ((Z2 N p).bind fun v73=>
 (Qr N p.Topic).bind fun v75=>
 cond (!v75)
 (cond (Q1l .eql p.Topic [])
 (cond v73.2
 (cond (!(Q4 .eql version 5))
 (some 10)
 ((Q5 N version 3 p.Props).bind fun v81=>
 some v81))
 (some 10))
 (some 10))
 ((Q5 N version 3 p.Props).bind fun v83=>
 some v83)))
 ((Z2 N p).bind fun v85=>
 (Qr N p.Topic).bind fun v87=>
 cond (!v87)
 (cond (Q1l .eql p.Topic [])
 (cond v85.2
 (cond (!(Q4 .eql version 5))
 (some 10)
 ((Q5 N version 3 p.Props).bind fun v93=>
 some v93))
 (some 10))
 (some 10))
 ((Q5 N version 3 p.Props).bind fun v95=>
 some v95)))))
 (cond (Q4 .eql version 4)
 (cond (Q4 .gtr ((Q7 Q6.cells p.Props).length:Int) 0)
 (some 2)
 ((Z2 N p).bind fun v99=>
 (Qr N p.Topic).bind fun v101=>
 cond (!v101)
 (cond (Q1l .eql p.Topic [])
 (cond v99.2
 (cond (!(Q4 .eql version 5))
 (some 10)
 ((Q5 N version 3 p.Props).bind fun v107=>
 some v107))
 (some 10))
 (some 10))
 ((Q5 N version 3 p.Props).bind fun v109=>
 some v109)))
 ((Z2 N p).bind fun v111=>
 (Qr N p.Topic).bind fun v113=>
 cond (!v113)
 (cond (Q1l .eql p.Topic [])
 (cond v111.2
 (cond (!(Q4 .eql version 5))
 (some 10)
 ((Q5 N version 3 p.Props).bind fun v119=>
 some v119))
 (some 10))
 (some 10))
 ((Q5 N version 3 p.Props).bind fun v121=>
 some v121))))))))
theorem Q50 {N} {version} {p} {r} (h:Vp N version p=some r):pU 122 [.int .i64 version,.agg (Q1.cells p)] (.int .i64 r):=by
 refine Q0 Zpu ?_;unfold Vp at h;rw [cX,cY] at h;refine cP h Y9 p1 fun v1 h=>?_;refine iL h fun h=>?_;refine iL h fun h=>?_;refine cP h Q4v zd fun v5 h=>?_;refine iL h fun h=>?_;refine cP h Qv (.cons zb (.cons (Ap (Qo (f2_ (f1_ (.cons (.nil _) (f2_ (.cons (.nil _) (.cons (.nil _) p1)))))))) .nil)) fun v8 h=>?_;refine iL h fun h=>?_;apply iU h<;>intro h
 ·refine iL h fun h=>?_;apply iU h<;>intro h
  ·refine iL h fun h=>?_;refine iL h fun h=>?_;apply iU h<;>intro h
   ·refine iL h fun h=>?_;refine cP h Yq zc fun v18 h=>?_;refine cP h Zi p1 fun v20 h=>?_;apply iU h<;>intro h
    ·refine iR h fun h=>?_;refine iR h fun h=>?_;refine iL h fun h=>?_;refine cP h Q8 p3 fun v26 h=>?_;cases h;exact (.p _)
    refine cP h Q8 p3 fun v28 h=>?_;cases h;exact (.p _)
   refine cP h Yq zc fun v30 h=>?_;refine cP h Zi p1 fun v32 h=>?_;apply iU h<;>intro h
   ·refine iR h fun h=>?_;refine iR h fun h=>?_;refine iL h fun h=>?_;refine cP h Q8 p3 fun v38 h=>?_;cases h;exact (.p _)
   refine cP h Q8 p3 fun v40 h=>?_;cases h;exact (.p _)
  apply iU h<;>intro h
  ·refine iL h fun h=>?_;refine cP h Yq zc fun v44 h=>?_;refine cP h Zi p1 fun v46 h=>?_;apply iU h<;>intro h
   ·refine iR h fun h=>?_;refine iR h fun h=>?_;refine iL h fun h=>?_;refine cP h Q8 p3 fun v52 h=>?_;cases h;exact (.p _)
   refine cP h Q8 p3 fun v54 h=>?_;cases h;exact (.p _)
  refine cP h Yq zc fun v56 h=>?_;refine cP h Zi p1 fun v58 h=>?_;apply iU h<;>intro h
  ·refine iR h fun h=>?_;refine iR h fun h=>?_;refine iL h fun h=>?_;refine cP h Q8 p3 fun v64 h=>?_;cases h;exact (.p _)
  refine cP h Q8 p3 fun v66 h=>?_;cases h;exact (.p _)
 apply iU h<;>intro h
 ·refine iL h fun h=>?_;refine iL h fun h=>?_;apply iU h<;>intro h
  ·refine iL h fun h=>?_;refine cP h Yq zc fun v73 h=>?_;refine cP h Zi p1 fun v75 h=>?_;apply iU h<;>intro h
   ·refine iR h fun h=>?_;refine iR h fun h=>?_;refine iL h fun h=>?_;refine cP h Q8 p3 fun v81 h=>?_;cases h;exact (.p _)
   refine cP h Q8 p3 fun v83 h=>?_;cases h;exact (.p _)
  refine cP h Yq zc fun v85 h=>?_;refine cP h Zi p1 fun v87 h=>?_;apply iU h<;>intro h
  ·refine iR h fun h=>?_;refine iR h fun h=>?_;refine iL h fun h=>?_;refine cP h Q8 p3 fun v93 h=>?_;cases h;exact (.p _)
  refine cP h Q8 p3 fun v95 h=>?_;cases h;exact (.p _)
 apply iU h<;>intro h
 ·refine iL h fun h=>?_;refine cP h Yq zc fun v99 h=>?_;refine cP h Zi p1 fun v101 h=>?_;apply iU h<;>intro h
  ·refine iR h fun h=>?_;refine iR h fun h=>?_;refine iL h fun h=>?_;refine cP h Q8 p3 fun v107 h=>?_;cases h;exact (.p _)
  refine cP h Q8 p3 fun v109 h=>?_;cases h;exact (.p _)
 refine cP h Yq zc fun v111 h=>?_;refine cP h Zi p1 fun v113 h=>?_;apply iU h<;>intro h
 ·refine iR h fun h=>?_;refine iR h fun h=>?_;refine iL h fun h=>?_;refine cP h Q8 p3 fun v119 h=>?_;cases h;exact (.p _)
 refine cP h Q8 p3 fun v121 h=>?_;cases h;exact (.p _)
def Jw (N:Nat) (version:Int) (p:Q1):Option Bool:=
 (Z7 N version).bind fun v1=>
 cond (!v1)
 (some false)
 (cond (Q4 .lss p.Kind 4)
 (some false)
 (cond (Q4 .gtr p.Kind 7)
 (some false)
 (cond (Q4 .eql version 4)
 (cond (Q4 .neq p.Code 0)
 ((Qk N p (⟨p.Kind,false,false,0,p.ID,[],[],false,0,[],false,[],false,[],false,(⟨[],[],0,false,[]⟩:Y5),false,p.Code,[],[],p.Props⟩:Q1)).bind fun v8=>
 cond v8
 (some false)
 (some false))
 ((Qk N p (⟨p.Kind,false,false,0,p.ID,[],[],false,0,[],false,[],false,[],false,(⟨[],[],0,false,[]⟩:Y5),false,p.Code,[],[],p.Props⟩:Q1)).bind fun v11=>
 cond v11
 (cond (!(Q4 .gtr ((Q7 Q6.cells p.Props).length:Int) 0))
 (cond (Q4 .geq p.ID 1)
 (cond (Q4 .leq p.ID 65535)
 ((Qy N p.Kind p.Code).bind fun v17=>
 some v17)
 (some false))
 (some false))
 (some false))
 (some false)))
 ((Qk N p (⟨p.Kind,false,false,0,p.ID,[],[],false,0,[],false,[],false,[],false,(⟨[],[],0,false,[]⟩:Y5),false,p.Code,[],[],p.Props⟩:Q1)).bind fun v19=>
 cond v19
 (cond (Q4 .geq p.ID 1)
 (cond (Q4 .leq p.ID 65535)
 ((Qy N p.Kind p.Code).bind fun v24=>
 some v24)
 (some false))
 (some false))
 (some false)))))
theorem Q9z {N} {version} {p} {r} (h:Jw N version p=some r):pU 179 [.int .i64 version,.agg (Q1.cells p)] (.bool r):=by
 refine Q0 Zq3 ?_;unfold Jw at h;rw [cX] at h;refine cP h Y9 p1 fun v1 h=>?_;refine iL h fun h=>?_;refine iL h fun h=>?_;refine iL h fun h=>?_;apply iU h<;>intro h
 ·apply iU h<;>intro h
  ·refine cP h Qv (.cons zb (.cons (Ap (Qo (f2_ (f1_ (.cons (.nil _) (f2_ (.cons (.nil _) (.cons (.nil _) p1)))))))) .nil)) fun v8 h=>?_;exact iB h
  refine cP h Qv (.cons zb (.cons (Ap (Qo (f2_ (f1_ (.cons (.nil _) (f2_ (.cons (.nil _) (.cons (.nil _) p1)))))))) .nil)) fun v11 h=>?_;refine iR h fun h=>?_;refine iR h fun h=>?_;refine iR h fun h=>?_;refine iR h fun h=>?_;refine cP h Yk p2 fun v17 h=>?_;cases h;exact (.p _)
 refine cP h Qv (.cons zb (.cons (Ap (Qo (f2_ (f1_ (.cons (.nil _) (f2_ (.cons (.nil _) (.cons (.nil _) p1)))))))) .nil)) fun v19 h=>?_;refine iR h fun h=>?_;refine iR h fun h=>?_;refine iR h fun h=>?_;refine cP h Yk p2 fun v24 h=>?_;cases h;exact (.p _)
def Vz (N:Nat) (version:Int) (p:Q1):Option Int:=
 (Jw N version p).bind fun v1=>
 cond (!v1)
 (some 2)
 ((Q5 N version p.Kind p.Props).bind fun v4=>
 some v4)
theorem Q4s {N} {version} {p} {r} (h:Vz N version p=some r):pU 123 [.int .i64 version,.agg (Q1.cells p)] (.int .i64 r):=by
 refine Q0 Zar ?_;unfold Vz at h;refine cP h Q9z zd fun v1 h=>?_;refine iL h fun h=>?_;refine cP h Q8 p3 fun v4 h=>?_;cases h;exact (.p _)
def Q0y (_N:Nat) (kind:Int):Option Bool:=
 cond (Q4 .geq kind 8)
 (some (Q4 .leq kind 11))
 (some false)
theorem Q98 {N} {kind} {r} (h:Q0y N kind=some r):pU 180 [.int .i64 kind] (.bool r):=by
 refine Q0 Zht ?_;unfold Q0y at h;rw [cX] at h;exact iB h
def Q1m (_N:Nat) (kind:Int):Option Bool:=
 cond (Q4 .eql kind 8)
 (some true)
 (some (Q4 .eql kind 10))
theorem Qaa {N} {kind} {r} (h:Q1m N kind=some r):pU 276 [.int .i64 kind] (.bool r):=by
 refine Q0 Zba ?_;unfold Q1m at h;rw [cX] at h;exact iB h
def Gm (N:Nat) (version:Int) (p:Q1):Option (Q1):=
 (Q1m N p.Kind).bind fun v1=>
 cond v1
 (some (⟨p.Kind,false,false,0,p.ID,[],[],false,0,[],false,[],false,[],false,(⟨[],[],0,false,[]⟩:Y5),false,0,[],p.Filters,p.Props⟩:Q1))
 (cond (Q4 .eql p.Kind 9)
 (some (⟨p.Kind,false,false,0,p.ID,[],[],false,0,[],false,[],false,[],false,(⟨[],[],0,false,[]⟩:Y5),false,0,p.Codes,[],p.Props⟩:Q1))
 (cond (Q4 .eql version 5)
 (some (⟨p.Kind,false,false,0,p.ID,[],[],false,0,[],false,[],false,[],false,(⟨[],[],0,false,[]⟩:Y5),false,0,p.Codes,[],p.Props⟩:Q1))
 (some (⟨p.Kind,false,false,0,p.ID,[],[],false,0,[],false,[],false,[],false,(⟨[],[],0,false,[]⟩:Y5),false,0,[],[],p.Props⟩:Q1))))
theorem Qah {N} {version} {p} {r} (h:Gm N version p=some r):pU 181 [.int .i64 version,.agg (Q1.cells p)] (.agg (Q1.cells r)):=by
 refine Q0 Zai ?_;unfold Gm at h;rw [cX] at h;refine cP h Qaa p1 fun v1 h=>?_;apply iU h<;>intro h
 ·obtain rfl:=Qi h;exact (Ap (Qo (f2_ (f1_ (.cons (.nil _) (f2_ (.cons (.nil _) p2)))))))
 apply iU h<;>intro h
 ·obtain rfl:=Qi h;exact (Ap (Qo (f2_ (f1_ (.cons (.nil _) (f2_ (f1_ (.cons (.nil _) p1))))))))
 apply iU h<;>intro h
 ·obtain rfl:=Qi h;exact (Ap (Qo (f2_ (f1_ (.cons (.nil _) (f2_ (f1_ (.cons (.nil _) p1))))))))
 obtain rfl:=Qi h;exact (Ap (Qo (f2_ (f1_ (.cons (.nil _) (f2_ (.cons (.nil _) (.cons (.nil _) p1))))))))
def Zt (N:Nat) (s_0:List UInt8):Nat->Int->Int->(List (List UInt8))->Option (List (List UInt8))
 | 0,_,_,_=>none
 | n+1,from16,i17,l18=>
  cond (Q4 .lss i17 (s_0.length:Int))
  ((idx s_0 i17).bind fun b20=>
  cond (Q4 .eql (b20.toNat:Int) 47)
  (cond (decide (0≤from16)) (cond (decide (0≤i17)) (cond (Nat.ble from16.toNat i17.toNat&&Nat.ble i17.toNat s_0.length) (cond (Nat.ble ((l18.length+1+4096) * 16) 17592186044416) (Zt N s_0 n (wrap .i64 (i17+1)) (wrap .i64 (i17+1)) (l18 ++ [((s_0.take i17.toNat).drop from16.toNat)])) none) none) none) none)
  (Zt N s_0 n from16 (wrap .i64 (i17+1)) l18))
  (cond (decide (0≤from16)) (cond (Nat.ble from16.toNat s_0.length&&Nat.ble s_0.length s_0.length) (cond (Nat.ble ((l18.length+1+4096) * 16) 17592186044416) (some (l18 ++ [((s_0.take s_0.length).drop from16.toNat)])) none) none) none)
def Ve (N:Nat) (s_0:List UInt8):Option (List (List UInt8)):=
 Zt N s_0 N 0 0 []
theorem Q41 {N} {s_0} {r} (h:Ve N s_0=some r):pU 277 [.str s_0] (.slice 1 (Q7 cS r)):=by
 refine Q0 Zdt ?_;unfold Ve at h;refine lpA (τ:=Int×Int×(List (List UInt8))) (fun ⟨from16,i17,l18⟩=>(iS s_0 :: .any :: .any :: .slice 1 0 0 l18.length::iI from16::iI i17::a16 (a8 (.any :: [])):List AV)) (fun ⟨_,_,l18⟩=>(.cells (Q0g cS l18) :: []:List AObj)) (fun n0 ⟨from16,i17,l18⟩=>Zt N s_0 n0 from16 i17 l18) (0,0,[]) h fun n0 ⟨from16,i17,l18⟩ h=>?_
 first | rw [Zt] at h | simp only [Zt] at h
 rw [cX] at h;apply iU h<;>intro h
 ·refine xB h fun b20 h=>?_;apply iU h<;>intro h
  ·refine kU h fun h=>?_;refine kU h fun h=>?_;refine kU h fun h=>?_;obtain ⟨hk26,h⟩:=Q48 h;refine Q0r (Zl (c:=cS) (e:=1) (fun _=>rfl) sd hk26) ?_;refine Jv (c:=cS) [((s_0.take i17.toNat).drop from16.toNat)] rfl ?_;show Exists _;exact ⟨(n0,(wrap .i64 (i17+1)),(wrap .i64 (i17+1)),(l18 ++ [((s_0.take i17.toNat).drop from16.toNat)])),h,Le _,(rho [2]),Yf⟩
  show Exists _;exact ⟨(n0,from16,(wrap .i64 (i17+1)),l18),h,Le _,(fun i=>i),Yf⟩
 refine kU h fun h=>?_;refine kU h fun h=>?_;obtain ⟨hk29,h⟩:=Q48 h;refine Q0r (Zl (c:=cS) (e:=1) (fun _=>rfl) sd hk29) ?_;refine Jv (c:=cS) [((s_0.take s_0.length).drop from16.toNat)] rfl ?_;obtain rfl:=Qi h;exact (frz_own (c:=cS) (l:=((l18 ++ [((s_0.take s_0.length).drop from16.toNat)]):List (List UInt8))) (fun _=>rfl) rfl trivial sd)
def Qs (N:Nat) (v5:List (List UInt8)):Nat->Int->Option Bool
 | 0,_=>none
 | n+1,i62=>
  cond (Q4 .lss i62 ((Q7 cS v5).length:Int))
  ((idx v5 i62).bind fun y64=>
  (Y7 N y64 43).bind fun v66=>
  cond v66
  ((idx v5 i62).bind fun y69=>
  cond (Q1l .neq y69 [43])
  (some false)
  ((idx v5 i62).bind fun y72=>
  (Y7 N y72 35).bind fun v74=>
  cond v74
  ((idx v5 i62).bind fun y77=>
  cond (Q1l .neq y77 [35])
  (some false)
  (cond (Q4 .lss (wrap .i64 (i62+1)) ((Q7 cS v5).length:Int))
  (some false)
  (Qs N v5 n (wrap .i64 (i62+1)))))
  (Qs N v5 n (wrap .i64 (i62+1)))))
  ((idx v5 i62).bind fun y81=>
  (Y7 N y81 35).bind fun v83=>
  cond v83
  ((idx v5 i62).bind fun y86=>
  cond (Q1l .neq y86 [35])
  (some false)
  (cond (Q4 .lss (wrap .i64 (i62+1)) ((Q7 cS v5).length:Int))
  (some false)
  (Qs N v5 n (wrap .i64 (i62+1)))))
  (Qs N v5 n (wrap .i64 (i62+1)))))
  (some true)
def Yl (N:Nat) (s_0:List UInt8):Option Bool:=
 cond (Q1l .eql s_0 [])
 (some false)
 ((Y0 N s_0).bind fun v2=>
 cond (!v2)
 (some false)
 ((Ve N s_0).bind fun v5=>
 Qs N v5 N 0))
theorem Jj {N} {s_0} {r} (h:Yl N s_0=some r):pU 182 [.str s_0] (.bool r):=by
 refine Q0 Zn6 ?_;unfold Yl at h;rw [cY] at h;refine iL h fun h=>?_;refine cP h Yr p1 fun v2 h=>?_;refine iL h fun h=>?_;refine cP h Q41 p1 fun v5 h=>?_;refine lpH (τ:=Int) (fun i62=>(a2 (.any :: .p (.slice 1 (Q7 cS v5))::iI i62::a16 (a16 (a16 ([])))):List AV)) (fun n0 i62=>Qs N v5 n0 i62) (0) h fun n0 i62 h=>?_
 first | rw [Qs] at h | simp only [Qs] at h
 rw [cX,cY] at h;refine iR h fun h=>?_;refine xR h fun y64 h=>?_;refine cP h Wa p2 fun v66 h=>?_;apply iU h<;>intro h
 ·refine xR h fun y69 h=>?_;refine iL h fun h=>?_;refine xR h fun y72 h=>?_;refine cP h Wa p2 fun v74 h=>?_;apply iU h<;>intro h
  ·refine xR h fun y77 h=>?_;refine iL h fun h=>?_;refine iL h fun h=>?_;show Exists _;exact ⟨(n0,(wrap .i64 (i62+1))),h,Le _,(fun i=>i),Yf⟩
  show Exists _;exact ⟨(n0,(wrap .i64 (i62+1))),h,Le _,(fun i=>i),Yf⟩
 refine xR h fun y81 h=>?_;refine cP h Wa p2 fun v83 h=>?_;apply iU h<;>intro h
 ·refine xR h fun y86 h=>?_;refine iL h fun h=>?_;refine iL h fun h=>?_;show Exists _;exact ⟨(n0,(wrap .i64 (i62+1))),h,Le _,(fun i=>i),Yf⟩
 show Exists _;exact ⟨(n0,(wrap .i64 (i62+1))),h,Le _,(fun i=>i),Yf⟩
def Yc (N:Nat) (levels:List (List UInt8)):Nat->(List UInt8)->Int->Option (List UInt8)
 | 0,_,_=>none
 | n+1,out16,i17=>
  cond (Q4 .lss i17 ((Q7 cS levels).length:Int))
  (cond (Q4 .gtr i17 0)
  (cond (Nat.ble (out16.length + [47].length) 4611686018427387904) ((idx levels i17).bind fun y21=>
  cond (Nat.ble ((out16 ++ [47]).length+y21.length) 4611686018427387904) (Yc N levels n ((out16 ++ [47])++y21) (wrap .i64 (i17+1))) none) none)
  ((idx levels i17).bind fun y24=>
  cond (Nat.ble (out16.length+y24.length) 4611686018427387904) (Yc N levels n (out16++y24) (wrap .i64 (i17+1))) none))
  (some out16)
def Gg (N:Nat) (levels:List (List UInt8)):Option (List UInt8):=
 Yc N levels N [] 0
theorem Qa4 {N} {levels} {r} (h:Gg N levels=some r):pU 358 [.slice 1 (Q7 cS levels)] (.str r):=by
 refine Q0 Zj7 ?_;unfold Gg at h;refine lpH (τ:=(List UInt8)×Int) (fun ⟨out16,i17⟩=>(.p (.slice 1 (Q7 cS levels)) :: .any :: .any::iS out16::iI i17::a16 (.any :: []):List AV)) (fun n0 ⟨out16,i17⟩=>Yc N levels n0 out16 i17) ([],0) h fun n0 ⟨out16,i17⟩ h=>?_
 first | rw [Yc] at h | simp only [Yc] at h
 rw [cX] at h;refine iR h fun h=>?_;apply iU h<;>intro h
 ·refine kU h fun h=>?_;refine xR h fun y21 h=>?_;refine kU h fun h=>?_;show Exists _;exact ⟨(n0,((out16 ++ [47])++y21),(wrap .i64 (i17+1))),h,Le _,(fun i=>i),Yf⟩
 refine xR h fun y24 h=>?_;refine kU h fun h=>?_;show Exists _;exact ⟨(n0,(out16++y24),(wrap .i64 (i17+1))),h,Le _,(fun i=>i),Yf⟩
def J2 (N:Nat) (s_0:List UInt8):Option ((List UInt8)×(List UInt8)×Bool):=
 (Y0 N s_0).bind fun v1=>
 cond (!v1)
 (some ([],[],false))
 (cond (Q4 .lss (s_0.length:Int) 7)
 (some ([],[],false))
 (cond (Nat.ble 0 7&&Nat.ble 7 s_0.length) (cond (Q1l .neq ((s_0.take 7).drop 0) [36,115,104,97,114,101,47])
 (some ([],[],false))
 ((Ve N s_0).bind fun v7=>
 cond (Q4 .lss ((Q7 cS v7).length:Int) 3)
 (some ([],[],false))
 ((idx v7 1).bind fun y10=>
 cond (Q1l .eql y10 [])
 (some ([],[],false))
 ((idx v7 1).bind fun y13=>
 (Y7 N y13 43).bind fun v15=>
 cond v15
 (some ([],[],false))
 ((idx v7 1).bind fun y18=>
 (Y7 N y18 35).bind fun v20=>
 cond v20
 (some ([],[],false))
 (cond (Nat.ble 2 (Q7 cS v7).length&&Nat.ble (Q7 cS v7).length (Q7 cS v7).length) ((Gg N (v7.drop 2)).bind fun v24=>
 (Yl N v24).bind fun v26=>
 cond (!v26)
 (some ([],[],false))
 ((idx v7 1).bind fun y29=>
 some (y29,v24,true))) none)))))) none))
theorem Q93 {N} {s_0} {r} (h:J2 N s_0=some r):pU 278 [.str s_0] (.tuple [.str r.1,.str r.2.1,.bool r.2.2]):=by
 refine Q0 Zbz ?_;unfold J2 at h;rw [cX,cY] at h;refine cP h Yr p1 fun v1 h=>?_;apply iU h<;>intro h
 ·obtain rfl:=Qi h;exact u3
 apply iU h<;>intro h
 ·obtain rfl:=Qi h;exact u3
 refine kU h fun h=>?_;apply iU h<;>intro h
 ·obtain rfl:=Qi h;exact u3
 refine cP h Q41 p1 fun v7 h=>?_;apply iU h<;>intro h
 ·obtain rfl:=Qi h;exact u3
 refine xR h fun y10 h=>?_;apply iU h<;>intro h
 ·obtain rfl:=Qi h;exact u3
 refine xR h fun y13 h=>?_;refine cP h Wa p2 fun v15 h=>?_;apply iU h<;>intro h
 ·obtain rfl:=Qi h;exact u3
 refine xR h fun y18 h=>?_;refine cP h Wa p2 fun v20 h=>?_;apply iU h<;>intro h
 ·obtain rfl:=Qi h;exact u3
 refine kU h fun h=>?_;refine cP h Qa4 (.cons (Qyg (c:=cS)) .nil) fun v24 h=>?_;refine cP h Jj p1 fun v26 h=>?_;apply iU h<;>intro h
 ·obtain rfl:=Qi h;exact u3
 refine xR h fun y29 h=>?_;obtain rfl:=Qi h;exact u3
def Yx (N:Nat) (version:Int) (kind:Int) (f:Qa):Option Bool:=
 cond (Q4 .eql kind 10)
 (some (((f.Topic:List UInt8) == f.Topic)&&(((f.QoS:Int) == 0)&&(((f.NoLocal:Bool) == false)&&(((f.AsPublished:Bool) == false)&&(((f.Handling:Int) == 0)&&true))))))
 (cond (Q4 .lss f.QoS 0)
 (some false)
 (cond (Q4 .gtr f.QoS 2)
 (some false)
 (cond (Q4 .lss f.Handling 0)
 (some false)
 (cond (Q4 .gtr f.Handling 2)
 (some false)
 (cond (Q4 .eql version 4)
 (cond (!f.NoLocal)
 (cond (!f.AsPublished)
 (some (Q4 .eql f.Handling 0))
 (some false))
 (some false))
 ((J2 N f.Topic).bind fun v9=>
 cond (!f.NoLocal)
 (some true)
 (some (!v9.2.2))))))))
theorem Q0s {N} {version} {kind} {f} {r} (h:Yx N version kind f=some r):pU 183 [.int .i64 version,.int .i64 kind,.agg (Qa.cells f)] (.bool r):=by
 refine Q0 Zhn ?_;unfold Yx at h;rw [cX] at h;refine iL h fun h=>?_;refine iL h fun h=>?_;refine iL h fun h=>?_;refine iL h fun h=>?_;refine iL h fun h=>?_;apply iU h<;>intro h
 ·refine iR h fun h=>?_;exact iB h
 refine cP h Q93 p1 fun v9 h=>?_;exact iB h
def Jk (_N:Nat) (code:Int):Option Bool:=
 cond (Q4 .eql code 0)
 (some true)
 (cond (Q4 .eql code 1)
 (some true)
 (cond (Q4 .eql code 2)
 (some true)
 (some (Q4 .eql code 128))))
theorem Q9y {N} {code} {r} (h:Jk N code=some r):pU 279 [.int .i64 code] (.bool r):=by
 refine Q0 Zqs ?_;unfold Jk at h;rw [cX] at h;refine iL h fun h=>?_;refine iL h fun h=>?_;exact iB h
def V6 (N:Nat) (version:Int) (kind:Int) (n_2:Int):Option Bool:=
 cond (Q4 .eql version 4)
 ((Jk N n_2).bind fun v2=>
 some v2)
 ((Qy N kind n_2).bind fun v4=>
 some v4)
theorem Q2g {N} {version} {kind} {n_2} {r} (h:V6 N version kind n_2=some r):pU 184 [.int .i64 version,.int .i64 kind,.int .i64 n_2] (.bool r):=by
 refine Q0 Zj2 ?_;unfold V6 at h;rw [cX] at h;apply iU h<;>intro h
 ·refine cP h Q9y p1 fun v2 h=>?_;cases h;exact (.p _)
 refine cP h Yk p2 fun v4 h=>?_;cases h;exact (.p _)
def Xd (N:Nat) (version:Int) (p:Q1):Nat->Int->Option Int
 | 0,_=>none
 | n+1,i70=>
  cond (Q4 .lss i70 ((Q7 (cI .i64) p.Codes).length:Int))
  ((idx p.Codes i70).bind fun y72=>
  (V6 N version p.Kind y72).bind fun v74=>
  cond (!v74)
  (some 2)
  (Xd N version p n (wrap .i64 (i70+1))))
  (some 0)
def Xh (N:Nat) (version:Int) (p:Q1):Nat->Int->Option Int
 | 0,_=>none
 | n+1,i45=>
  cond (Q4 .lss i45 ((Q7 Qa.cells p.Filters).length:Int))
  ((idx p.Filters i45).bind fun y47=>
  (Yl N y47.Topic).bind fun v49=>
  cond (!v49)
  (some 10)
  ((idx p.Filters i45).bind fun y52=>
  (Yx N version p.Kind y52).bind fun v54=>
  cond (!v54)
  (some 2)
  (Xh N version p n (wrap .i64 (i45+1)))))
  (Xd N version p N 0)
def Xe (N:Nat) (version:Int) (p:Q1):Nat->Int->Option Int
 | 0,_=>none
 | n+1,i128=>
  cond (Q4 .lss i128 ((Q7 (cI .i64) p.Codes).length:Int))
  ((idx p.Codes i128).bind fun y130=>
  (V6 N version p.Kind y130).bind fun v132=>
  cond (!v132)
  (some 2)
  (Xe N version p n (wrap .i64 (i128+1))))
  (some 0)
def Xf (N:Nat) (version:Int) (p:Q1):Nat->Int->Option Int
 | 0,_=>none
 | n+1,i103=>
  cond (Q4 .lss i103 ((Q7 Qa.cells p.Filters).length:Int))
  ((idx p.Filters i103).bind fun y105=>
  (Yl N y105.Topic).bind fun v107=>
  cond (!v107)
  (some 10)
  ((idx p.Filters i103).bind fun y110=>
  (Yx N version p.Kind y110).bind fun v112=>
  cond (!v112)
  (some 2)
  (Xf N version p n (wrap .i64 (i103+1)))))
  (Xe N version p N 0)
def Xi (N:Nat) (version:Int) (p:Q1):Nat->Int->Option Int
 | 0,_=>none
 | n+1,i188=>
  cond (Q4 .lss i188 ((Q7 (cI .i64) p.Codes).length:Int))
  ((idx p.Codes i188).bind fun y190=>
  (V6 N version p.Kind y190).bind fun v192=>
  cond (!v192)
  (some 2)
  (Xi N version p n (wrap .i64 (i188+1))))
  (some 0)
def Xc (N:Nat) (version:Int) (p:Q1):Nat->Int->Option Int
 | 0,_=>none
 | n+1,i163=>
  cond (Q4 .lss i163 ((Q7 Qa.cells p.Filters).length:Int))
  ((idx p.Filters i163).bind fun y165=>
  (Yl N y165.Topic).bind fun v167=>
  cond (!v167)
  (some 10)
  ((idx p.Filters i163).bind fun y170=>
  (Yx N version p.Kind y170).bind fun v172=>
  cond (!v172)
  (some 2)
  (Xc N version p n (wrap .i64 (i163+1)))))
  (Xi N version p N 0)
def U0 (N:Nat) (version:Int) (p:Q1):Option Int:=
 (Z7 N version).bind fun v1=>
 cond (!v1)
 (some 2)
 ((Q0y N p.Kind).bind fun v4=>
 cond (!v4)
 (some 2)
 ((Gm N version p).bind fun v7=>
 (Qk N p v7).bind fun v9=>
 cond (!v9)
 (some 2)
 (cond (Q4 .lss p.ID 1)
 (some 2)
 (cond (Q4 .gtr p.ID 65535)
 (some 2)
 (cond (Q4 .eql version 4)
 (cond (Q4 .gtr ((Q7 Q6.cells p.Props).length:Int) 0)
 (some 2)
 (cond (Q4 .eql (wrap .i64 (((Q7 Qa.cells p.Filters).length:Int)+((Q7 (cI .i64) p.Codes).length:Int))) 0)
 (cond (Q4 .eql p.Kind 11)
 ((Q5 N version p.Kind p.Props).bind fun v18=>
 cond (Q4 .neq v18 0)
 (some v18)
 (Xh N version p N 0))
 (some 2))
 ((Q5 N version p.Kind p.Props).bind fun v77=>
 cond (Q4 .neq v77 0)
 (some v77)
 (Xf N version p N 0))))
 (cond (Q4 .eql (wrap .i64 (((Q7 Qa.cells p.Filters).length:Int)+((Q7 (cI .i64) p.Codes).length:Int))) 0)
 (cond (Q4 .eql p.Kind 11)
 (some 2)
 (some 2))
 ((Q5 N version p.Kind p.Props).bind fun v137=>
 cond (Q4 .neq v137 0)
 (some v137)
 (Xc N version p N 0))))))))
theorem Q4r {N} {version} {p} {r} (h:U0 N version p=some r):pU 124 [.int .i64 version,.agg (Q1.cells p)] (.int .i64 r):=by
 refine Q0 Zo2 ?_;unfold U0 at h;rw [cX] at h;refine Ql ?_;refine cD h Y9 p1 fun v1 h=>?_;refine iL h fun h=>?_;refine cD h Q98 p1 fun v4 h=>?_;refine iL h fun h=>?_;refine cD h Qah zd fun v7 h=>?_;refine cD h Qv (.cons zb p1) fun v9 h=>?_;refine iL h fun h=>?_;refine iL h fun h=>?_;refine iL h fun h=>?_;refine ifO h (fun hc14 h=>?_) (fun hc14 h=>?_)
 ·refine iL h fun h=>?_;apply iU h<;>intro h
  ·refine iR h fun h=>?_;refine ifF (Z7e hc14) ?_;refine cP h Q8 p3 fun v18 h=>?_;refine iL h fun h=>?_;refine lpH (τ:=Int) (fun i45=>(iI version :: .any :: .any :: .ptr 0 0 :: .any :: .any::iI i45::a16 (a16 (a16 (a16 (a16 (a16 (a8 (a2 (.any :: [])))))))):List AV)) (fun n0 i45=>Xh N version p n0 i45) (0) h fun n0 i45 h=>?_
   first | rw [Xh] at h | simp only [Xh] at h
   rw [cX] at h;apply iU h<;>intro h
   ·refine xR h fun y47 h=>?_;refine cP h Jj p1 fun v49 h=>?_;refine iL h fun h=>?_;refine Ql ?_;refine xR h fun y52 h=>?_;refine cD h Q0s (f2_ (.cons (Ap p5) .nil)) fun v54 h=>?_;refine iL h fun h=>?_;show Exists _;exact ⟨(n0,(wrap .i64 (i45+1))),h,Le _,(fun i=>i),Yf⟩
   refine lpH (τ:=Int) (fun i70=>(iI version :: .any :: .any :: .ptr 0 0::a2 (.any::iI i70::a16 (a16 (a16 (a16 (a16 (a16 (a8 (a2 ([]))))))))):List AV)) (fun n1 i70=>Xd N version p n1 i70) (0) h fun n1 i70 h=>?_
   first | rw [Xd] at h | simp only [Xd] at h
   rw [cX] at h;refine iR h fun h=>?_;refine Ql ?_;refine xR h fun y72 h=>?_;refine cD h Q2g p3 fun v74 h=>?_;refine iL h fun h=>?_;show Exists _;exact ⟨(n1,(wrap .i64 (i70+1))),h,Le _,(fun i=>i),Yf⟩
  refine cP h Q8 p3 fun v77 h=>?_;refine iL h fun h=>?_;refine lpH (τ:=Int) (fun i103=>(iI version :: .any :: .any :: .ptr 0 0 :: .any :: .any::iI i103::a16 (a16 (a16 (a16 (a16 (a16 (a8 (a2 (.any :: [])))))))):List AV)) (fun n2 i103=>Xf N version p n2 i103) (0) h fun n2 i103 h=>?_
  first | rw [Xf] at h | simp only [Xf] at h
  rw [cX] at h;apply iU h<;>intro h
  ·refine xR h fun y105 h=>?_;refine cP h Jj p1 fun v107 h=>?_;refine iL h fun h=>?_;refine Ql ?_;refine xR h fun y110 h=>?_;refine cD h Q0s (f2_ (.cons (Ap p5) .nil)) fun v112 h=>?_;refine iL h fun h=>?_;show Exists _;exact ⟨(n2,(wrap .i64 (i103+1))),h,Le _,(fun i=>i),Yf⟩
  refine lpH (τ:=Int) (fun i128=>(iI version :: .any :: .any :: .ptr 0 0::a2 (.any::iI i128::a16 (a16 (a16 (a16 (a16 (a16 (a8 (a2 ([]))))))))):List AV)) (fun n3 i128=>Xe N version p n3 i128) (0) h fun n3 i128 h=>?_
  first | rw [Xe] at h | simp only [Xe] at h
  rw [cX] at h;refine iR h fun h=>?_;refine Ql ?_;refine xR h fun y130 h=>?_;refine cD h Q2g p3 fun v132 h=>?_;refine iL h fun h=>?_;show Exists _;exact ⟨(n3,(wrap .i64 (i128+1))),h,Le _,(fun i=>i),Yf⟩
 apply iU h<;>intro h
 ·refine iR h fun h=>?_;refine ifT (Z33 hc14) ?_;cases h;exact (.p _)
 refine cP h Q8 p3 fun v137 h=>?_;refine iL h fun h=>?_;refine lpH (τ:=Int) (fun i163=>(iI version :: .any :: .any :: .ptr 0 0 :: .any :: .any::iI i163::a16 (a16 (a16 (a16 (a16 (a16 (a8 (a2 (.any :: [])))))))):List AV)) (fun n4 i163=>Xc N version p n4 i163) (0) h fun n4 i163 h=>?_
 first | rw [Xc] at h | simp only [Xc] at h
 rw [cX] at h;apply iU h<;>intro h
 ·refine xR h fun y165 h=>?_;refine cP h Jj p1 fun v167 h=>?_;refine iL h fun h=>?_;refine Ql ?_;refine xR h fun y170 h=>?_;refine cD h Q0s (f2_ (.cons (Ap p5) .nil)) fun v172 h=>?_;refine iL h fun h=>?_;show Exists _;exact ⟨(n4,(wrap .i64 (i163+1))),h,Le _,(fun i=>i),Yf⟩
 refine lpH (τ:=Int) (fun i188=>(iI version :: .any :: .any :: .ptr 0 0::a2 (.any::iI i188::a16 (a16 (a16 (a16 (a16 (a16 (a8 (a2 ([]))))))))):List AV)) (fun n5 i188=>Xi N version p n5 i188) (0) h fun n5 i188 h=>?_
 first | rw [Xi] at h | simp only [Xi] at h
 rw [cX] at h;refine iR h fun h=>?_;refine Ql ?_;refine xR h fun y190 h=>?_;refine cD h Q2g p3 fun v192 h=>?_;refine iL h fun h=>?_;show Exists _;exact ⟨(n5,(wrap .i64 (i188+1))),h,Le _,(fun i=>i),Yf⟩
def Z1 (_N:Nat) (version:Int) (kind:Int):Option Bool:=
 cond (Q4 .eql kind 12)
 (some true)
 (cond (Q4 .eql kind 13)
 (some true)
 (cond (Q4 .eql kind 14)
 (some (Q4 .eql version 4))
 (some false)))
theorem Xg {N} {version} {kind} {r} (h:Z1 N version kind=some r):pU 185 [.int .i64 version,.int .i64 kind] (.bool r):=by
 refine Q0 Zpd ?_;unfold Z1 at h;rw [cX] at h;refine iL h fun h=>?_;refine iL h fun h=>?_;exact iB h
def Vq (N:Nat) (version:Int) (p:Q1):Option Int:=
 (Z7 N version).bind fun v1=>
 cond (!v1)
 (some 2)
 (cond (Q4 .lss p.Kind 12)
 (some 2)
 (cond (Q4 .gtr p.Kind 15)
 (some 2)
 (cond (Q4 .eql p.Kind 15)
 (cond (Q4 .eql version 4)
 (some 8)
 ((Z1 N version p.Kind).bind fun v8=>
 cond (!v8)
 ((Qk N p (⟨p.Kind,false,false,0,0,[],[],false,0,[],false,[],false,[],false,(⟨[],[],0,false,[]⟩:Y5),false,p.Code,[],[],p.Props⟩:Q1)).bind fun v11=>
 cond (!v11)
 (some 2)
 ((Z1 N version p.Kind).bind fun v14=>
 cond (!v14)
 ((Qy N p.Kind p.Code).bind fun v17=>
 cond (!v17)
 (some 2)
 ((Q5 N version p.Kind p.Props).bind fun v20=>
 some v20))
 ((Q5 N version p.Kind p.Props).bind fun v22=>
 some v22)))
 ((Qk N p (⟨p.Kind,false,false,0,0,[],[],false,0,[],false,[],false,[],false,(⟨[],[],0,false,[]⟩:Y5),false,0,[],[],[]⟩:Q1)).bind fun v24=>
 cond (!v24)
 (some 2)
 ((Z1 N version p.Kind).bind fun v27=>
 cond (!v27)
 ((Qy N p.Kind p.Code).bind fun v30=>
 cond (!v30)
 (some 2)
 ((Q5 N version p.Kind p.Props).bind fun v33=>
 some v33))
 ((Q5 N version p.Kind p.Props).bind fun v35=>
 some v35)))))
 ((Z1 N version p.Kind).bind fun v37=>
 cond (!v37)
 ((Qk N p (⟨p.Kind,false,false,0,0,[],[],false,0,[],false,[],false,[],false,(⟨[],[],0,false,[]⟩:Y5),false,p.Code,[],[],p.Props⟩:Q1)).bind fun v40=>
 cond (!v40)
 (some 2)
 ((Z1 N version p.Kind).bind fun v43=>
 cond (!v43)
 ((Qy N p.Kind p.Code).bind fun v46=>
 cond (!v46)
 (some 2)
 ((Q5 N version p.Kind p.Props).bind fun v49=>
 some v49))
 ((Q5 N version p.Kind p.Props).bind fun v51=>
 some v51)))
 ((Qk N p (⟨p.Kind,false,false,0,0,[],[],false,0,[],false,[],false,[],false,(⟨[],[],0,false,[]⟩:Y5),false,0,[],[],[]⟩:Q1)).bind fun v53=>
 cond (!v53)
 (some 2)
 ((Z1 N version p.Kind).bind fun v56=>
 cond (!v56)
 ((Qy N p.Kind p.Code).bind fun v59=>
 cond (!v59)
 (some 2)
 ((Q5 N version p.Kind p.Props).bind fun v62=>
 some v62))
 ((Q5 N version p.Kind p.Props).bind fun v64=>
 some v64)))))))
theorem Q4p {N} {version} {p} {r} (h:Vq N version p=some r):pU 125 [.int .i64 version,.agg (Q1.cells p)] (.int .i64 r):=by
 refine Q0 Zmn ?_;unfold Vq at h;rw [cX] at h;refine cP h Y9 p1 fun v1 h=>?_;refine iL h fun h=>?_;refine iL h fun h=>?_;refine iL h fun h=>?_;apply iU h<;>intro h
 ·refine iL h fun h=>?_;refine cP h Xg p2 fun v8 h=>?_;apply iU h<;>intro h
  ·refine Ql ?_;refine cP h Qv (.cons zb (.cons (Ap (Qo (f2_ (f1_ (.cons (.nil _) (f2_ (.cons (.nil _) (.cons (.nil _) p1)))))))) .nil)) fun v11 h=>?_;refine iL h fun h=>?_;refine cP h Xg p2 fun v14 h=>?_;apply iU h<;>intro h
   ·refine cP h Yk p2 fun v17 h=>?_;refine iL h fun h=>?_;refine cP h Q8 p3 fun v20 h=>?_;cases h;exact (.p _)
   refine cP h Q8 p3 fun v22 h=>?_;cases h;exact (.p _)
  refine cP h Qv (.cons zb (.cons (Ap (Qo (f2_ (f1_ (.cons (.nil _) (f2_ (.cons (.nil _) (.cons (.nil _) (.cons (.nil _) .nil))))))))) .nil)) fun v24 h=>?_;refine iL h fun h=>?_;refine cP h Xg p2 fun v27 h=>?_;apply iU h<;>intro h
  ·refine cP h Yk p2 fun v30 h=>?_;refine iL h fun h=>?_;refine cP h Q8 p3 fun v33 h=>?_;cases h;exact (.p _)
  refine cP h Q8 p3 fun v35 h=>?_;cases h;exact (.p _)
 refine cP h Xg p2 fun v37 h=>?_;apply iU h<;>intro h
 ·refine Ql ?_;refine cP h Qv (.cons zb (.cons (Ap (Qo (f2_ (f1_ (.cons (.nil _) (f2_ (.cons (.nil _) (.cons (.nil _) p1)))))))) .nil)) fun v40 h=>?_;refine iL h fun h=>?_;refine cP h Xg p2 fun v43 h=>?_;apply iU h<;>intro h
  ·refine cP h Yk p2 fun v46 h=>?_;refine iL h fun h=>?_;refine cP h Q8 p3 fun v49 h=>?_;cases h;exact (.p _)
  refine cP h Q8 p3 fun v51 h=>?_;cases h;exact (.p _)
 refine cP h Qv (.cons zb (.cons (Ap (Qo (f2_ (f1_ (.cons (.nil _) (f2_ (.cons (.nil _) (.cons (.nil _) (.cons (.nil _) .nil))))))))) .nil)) fun v53 h=>?_;refine iL h fun h=>?_;refine cP h Xg p2 fun v56 h=>?_;apply iU h<;>intro h
 ·refine cP h Yk p2 fun v59 h=>?_;refine iL h fun h=>?_;refine cP h Q8 p3 fun v62 h=>?_;cases h;exact (.p _)
 refine cP h Q8 p3 fun v64 h=>?_;cases h;exact (.p _)
def Wl (N:Nat) (version:Int) (p:Q1):Option Int:=
 cond (Q4 .leq p.Kind 2)
 ((Vu N version p).bind fun v2=>
 some v2)
 (cond (Q4 .eql p.Kind 3)
 ((Vp N version p).bind fun v5=>
 some v5)
 (cond (Q4 .leq p.Kind 7)
 ((Vz N version p).bind fun v8=>
 some v8)
 (cond (Q4 .leq p.Kind 11)
 ((U0 N version p).bind fun v11=>
 some v11)
 ((Vq N version p).bind fun v13=>
 some v13))))
theorem Q51 {N} {version} {p} {r} (h:Wl N version p=some r):pU 70 [.int .i64 version,.agg (Q1.cells p)] (.int .i64 r):=by
 refine Q0 k70 ?_;unfold Wl at h;rw [cX] at h;apply iU h<;>intro h
 ·refine cP h Q4z zd fun v2 h=>?_;cases h;exact (.p _)
 apply iU h<;>intro h
 ·refine cP h Q50 zd fun v5 h=>?_;cases h;exact (.p _)
 apply iU h<;>intro h
 ·refine cP h Q4s zd fun v8 h=>?_;cases h;exact (.p _)
 apply iU h<;>intro h
 ·refine cP h Q4r zd fun v11 h=>?_;cases h;exact (.p _)
 refine cP h Q4p zd fun v13 h=>?_;cases h;exact (.p _)
def Jr (N:Nat) (kind:Int) (l:List Q6):Option ((List UInt8)×Int):=
 (Yy N kind l).bind fun v1=>
 cond (Q4 .neq v1 0)
 (some ([],v1))
 ((Uo N l).bind fun v4=>
 (Wn N (v4.length:Int)).bind fun v6=>
 cond (Nat.ble (v6.1.length+v4.length) 4611686018427387904) (some ((v6.1++v4),0)) none)
theorem Q99 {N} {kind} {l} {r} (h:Jr N kind l=some r):pU 281 [.int .i64 kind,.slice 4 (Q7 Q6.cells l)] (.tuple [.str r.1,.int .i64 r.2]):=by
 refine Q0 Zaa ?_;unfold Jr at h;rw [cX] at h;refine cP h Ga p2 fun v1 h=>?_;refine iL2 h fun h=>?_;refine cP h Q5v p1 fun v4 h=>?_;refine cP h Q1w p1 fun v6 h=>?_;refine kU h fun h=>?_;obtain rfl:=Qi h;exact u2
def Z0 (N:Nat) (version:Int) (kind:Int) (l:List Q6):Option (List UInt8):=
 cond (Q4 .eql version 4)
 (some [])
 ((Jr N kind l).bind fun v2=>
 some v2.1)
theorem X0 {N} {version} {kind} {l} {r} (h:Z0 N version kind l=some r):pU 188 [.int .i64 version,.int .i64 kind,.slice 4 (Q7 Q6.cells l)] (.str r):=by
 refine Q0 Zlt ?_;unfold Z0 at h;rw [cX] at h;refine iL h fun h=>?_;refine cP h Q99 p2 fun v2 h=>?_;cases h;exact (.p _)
def Vs (N:Nat) (version:Int) (kind:Int) (code:Int) (l:List Q6):Option (List UInt8):=
 cond (Q4 .eql version 5)
 (cond (Q4 .neq code 0)
 (cond (Q4 .gtr ((Q7 Q6.cells l).length:Int) 0)
 ((Z0 N version kind l).bind fun v4=>
 cond (Nat.ble ([UInt8.ofNat (wrap .u8 code).toNat].length+v4.length) 4611686018427387904) (some ([UInt8.ofNat (wrap .u8 code).toNat]++v4)) none)
 (some [UInt8.ofNat (wrap .u8 code).toNat]))
 (cond (Q4 .gtr ((Q7 Q6.cells l).length:Int) 0)
 ((Z0 N version kind l).bind fun v8=>
 cond (Nat.ble ([UInt8.ofNat (wrap .u8 code).toNat].length+v8.length) 4611686018427387904) (some ([UInt8.ofNat (wrap .u8 code).toNat]++v8)) none)
 (some [])))
 (some [])
theorem Q4y {N} {version} {kind} {code} {l} {r} (h:Vs N version kind code l=some r):pU 192 [.int .i64 version,.int .i64 kind,.int .i64 code,.slice 4 (Q7 Q6.cells l)] (.str r):=by
 refine Q0 Zcv ?_;unfold Vs at h;rw [cX] at h;refine iR h fun h=>?_;apply iU h<;>intro h
 ·refine iR h fun h=>?_;refine cP h X0 p3 fun v4 h=>?_;refine kU h fun h=>?_;cases h;exact (.p _)
 refine oR h fun hc7 h=>?_;refine ifT hc7 ?_;refine cP h X0 p3 fun v8 h=>?_;refine kU h fun h=>?_;cases h;exact (.p _)
def Gw (N:Nat) (version:Int) (p:Q1):Option ((List UInt8)×Int):=
 (Vz N version p).bind fun v1=>
 cond (Q4 .neq v1 0)
 (some ([],v1))
 ((Zj N (wrap .u64 p.ID) 2).bind fun v4=>
 (Vs N version p.Kind p.Code p.Props).bind fun v6=>
 cond (Nat.ble (v4.length+v6.length) 4611686018427387904) (some ((v4++v6),0)) none)
theorem Qa7 {N} {version} {p} {r} (h:Gw N version p=some r):pU 128 [.int .i64 version,.agg (Q1.cells p)] (.tuple [.str r.1,.int .i64 r.2]):=by
 refine Q0 Znt ?_;unfold Gw at h;rw [cX] at h;refine cP h Q4s zd fun v1 h=>?_;refine iL2 h fun h=>?_;refine Ql ?_;refine cD h Y6 p2 fun v4 h=>?_;refine cD h Q4y p4 fun v6 h=>?_;refine kU h fun h=>?_;obtain rfl:=Qi h;exact u2
def Gj (_N:Nat) (n_0:Int):Option Int:=
 some (((wrap .i64 (((n_0:Int).tmod 4)+4)):Int).tmod 4)
theorem Q5u {N} {n_0} {r} (h:Gj N n_0=some r):pU 283 [.int .i64 n_0] (.int .i64 r):=by
 refine Q0 Zgk ?_;unfold Gj at h;cases h;exact (.p _)
def U4 (N:Nat) (f:Qa):Option Int:=
 (Gj N f.QoS).bind fun v1=>
 (Gj N f.Handling).bind fun v3=>
 cond f.NoLocal
 (cond f.AsPublished
 (some (wrap .i64 ((wrap .i64 ((wrap .i64 (v1+(wrap .i64 (16 * v3))))+4))+8)))
 (some (wrap .i64 ((wrap .i64 (v1+(wrap .i64 (16 * v3))))+4))))
 (cond f.AsPublished
 (some (wrap .i64 ((wrap .i64 (v1+(wrap .i64 (16 * v3))))+8)))
 (some (wrap .i64 (v1+(wrap .i64 (16 * v3))))))
theorem Q8f {N} {f} {r} (h:U4 N f=some r):pU 193 [.agg (Qa.cells f)] (.int .i64 r):=by
 refine Q0 Zaf ?_;unfold U4 at h;refine Ql ?_;refine cD h Q5u p1 fun v1 h=>?_;refine cD h Q5u p1 fun v3 h=>?_;apply iU h<;>intro h
 ·exact iB h
 exact iB h
def W1 (N:Nat) (s_0:List UInt8):Option ((List UInt8)×Int):=
 (Y0 N s_0).bind fun v1=>
 cond (!v1)
 (some ([],6))
 ((Zj N (wrap .u64 (s_0.length:Int)) 2).bind fun v4=>
 cond (Nat.ble (v4.length+s_0.length) 4611686018427387904) (some ((v4++s_0),0)) none)
theorem Q5a {N} {s_0} {r} (h:W1 N s_0=some r):pU 191 [.str s_0] (.tuple [.str r.1,.int .i64 r.2]):=by
 refine Q0 Zi2 ?_;unfold W1 at h;refine cP h Yr p1 fun v1 h=>?_;refine iL2 h fun h=>?_;refine cP h Y6 p2 fun v4 h=>?_;refine kU h fun h=>?_;obtain rfl:=Qi h;exact u2
def X1 (N:Nat) (p:Q1):Nat->(List UInt8)->Int->Option ((List UInt8)×Int)
 | 0,_,_=>none
 | n+1,out59,i60=>
  cond (Q4 .lss i60 ((Q7 (cI .i64) p.Codes).length:Int))
  ((idx p.Codes i60).bind fun y62=>
  cond (Nat.ble (out59.length + [UInt8.ofNat (wrap .u8 y62).toNat].length) 4611686018427387904) (X1 N p n (out59 ++ [UInt8.ofNat (wrap .u8 y62).toNat]) (wrap .i64 (i60+1))) none)
  (some (out59,0))
def Zu (N:Nat) (p:Q1):Nat->(List UInt8)->Int->Option ((List UInt8)×Int)
 | 0,_,_=>none
 | n+1,out35,i36=>
  cond (Q4 .lss i36 ((Q7 Qa.cells p.Filters).length:Int))
  ((idx p.Filters i36).bind fun y38=>
  (W1 N y38.Topic).bind fun v40=>
  cond (Nat.ble (out35.length+v40.1.length) 4611686018427387904) (cond (Q4 .eql p.Kind 8)
  ((idx p.Filters i36).bind fun y44=>
  (U4 N y44).bind fun v46=>
  cond (Nat.ble ((out35++v40.1).length + [UInt8.ofNat (wrap .u8 v46).toNat].length) 4611686018427387904) (Zu N p n ((out35++v40.1) ++ [UInt8.ofNat (wrap .u8 v46).toNat]) (wrap .i64 (i36+1))) none)
  (Zu N p n (out35++v40.1) (wrap .i64 (i36+1)))) none)
  (X1 N p N out35 0)
def Gn (N:Nat) (version:Int) (p:Q1):Option ((List UInt8)×Int):=
 (U0 N version p).bind fun v1=>
 cond (Q4 .neq v1 0)
 (some ([],v1))
 ((Zj N (wrap .u64 p.ID) 2).bind fun v4=>
 (Z0 N version p.Kind p.Props).bind fun v6=>
 cond (Nat.ble (v4.length+v6.length) 4611686018427387904) (Zu N p N (v4++v6) 0) none)
theorem Qay {N} {version} {p} {r} (h:Gn N version p=some r):pU 129 [.int .i64 version,.agg (Q1.cells p)] (.tuple [.str r.1,.int .i64 r.2]):=by
 refine Q0 Zj6 ?_;unfold Gn at h;rw [cX] at h;refine cP h Q4r zd fun v1 h=>?_;refine iL2 h fun h=>?_;refine Ql ?_;refine cD h Y6 p2 fun v4 h=>?_;refine cD h X0 p3 fun v6 h=>?_;refine kU h fun h=>?_;refine lpH (τ:=(List UInt8)×Int) (fun ⟨out35,i36⟩=>(a2 (.any :: .ptr 0 0::a2 (.any::iS out35::iI i36::a16 (a16 (a16 (a16 (a8 ([]))))))):List AV)) (fun n0 ⟨out35,i36⟩=>Zu N p n0 out35 i36) ((v4++v6),0) h fun n0 ⟨out35,i36⟩ h=>?_
 first | rw [Zu] at h | simp only [Zu] at h
 rw [cX] at h;apply iU h<;>intro h
 ·refine xR h fun y38 h=>?_;refine cP h Q5a p1 fun v40 h=>?_;refine kU h fun h=>?_;apply iU h<;>intro h
  ·refine xR h fun y44 h=>?_;refine cP h Q8f (.cons (Ap p5) .nil) fun v46 h=>?_;refine kU h fun h=>?_;show Exists _;exact ⟨(n0,((out35++v40.1) ++ [UInt8.ofNat (wrap .u8 v46).toNat]),(wrap .i64 (i36+1))),h,Le _,(fun i=>i),Yf⟩
  show Exists _;exact ⟨(n0,(out35++v40.1),(wrap .i64 (i36+1))),h,Le _,(fun i=>i),Yf⟩
 refine lpH (τ:=(List UInt8)×Int) (fun ⟨out59,i60⟩=>(a2 (.any :: .ptr 0 0::a2 (.any::iS out59::a2 (.any::iI i60::a16 (a16 (a16 (a16 (a4 (.any :: [])))))))):List AV)) (fun n1 ⟨out59,i60⟩=>X1 N p n1 out59 i60) (out35,0) h fun n1 ⟨out59,i60⟩ h=>?_
 first | rw [X1] at h | simp only [X1] at h
 rw [cX] at h;refine iR2 h fun h=>?_;refine xR h fun y62 h=>?_;refine kU h fun h=>?_;show Exists _;exact ⟨(n1,(out59 ++ [UInt8.ofNat (wrap .u8 y62).toNat]),(wrap .i64 (i60+1))),h,Le _,(fun i=>i),Yf⟩
def Q1o (N:Nat) (code:Int) (l:List Q6) (kind:Int):Option (List UInt8):=
 cond (Q4 .lss code 0)
 (some [])
 (cond (Q4 .gtr code 255)
 (some [])
 ((Yy N kind l).bind fun v3=>
 cond (Q4 .neq v3 0)
 (some [])
 ((Vs N 5 kind code l).bind fun v6=>
 some v6)))
theorem Qao {N} {code} {l} {kind} {r} (h:Q1o N code l kind=some r):pU 194 [.int .i64 code,.slice 4 (Q7 Q6.cells l),.int .i64 kind] (.str r):=by
 refine Q0 Zby ?_;unfold Q1o at h;rw [cX] at h;refine iL h fun h=>?_;refine iL h fun h=>?_;refine cP h Ga p2 fun v3 h=>?_;refine iL h fun h=>?_;refine cP h Q4y p4 fun v6 h=>?_;cases h;exact (.p _)
def Gu (N:Nat) (version:Int) (p:Q1):Option ((List UInt8)×Int):=
 (Vq N version p).bind fun v1=>
 cond (Q4 .neq v1 0)
 (some ([],v1))
 ((Z1 N version p.Kind).bind fun v4=>
 cond v4
 (some ([],v1))
 ((Q1o N p.Code p.Props p.Kind).bind fun v7=>
 some (v7,0)))
theorem Qb4 {N} {version} {p} {r} (h:Gu N version p=some r):pU 130 [.int .i64 version,.agg (Q1.cells p)] (.tuple [.str r.1,.int .i64 r.2]):=by
 refine Q0 Zc0 ?_;unfold Gu at h;rw [cX] at h;refine cP h Q4p zd fun v1 h=>?_;refine iL2 h fun h=>?_;refine cP h Xg p2 fun v4 h=>?_;refine iL2 h fun h=>?_;refine cP h Qao p3 fun v7 h=>?_;obtain rfl:=Qi h;exact u2
def X3 (_N:Nat) (is:Bool) (n_1:Int):Option Int:=
 cond is
 (some n_1)
 (some 0)
theorem Vc {N} {is} {n_1} {r} (h:X3 N is n_1=some r):pU 187 [.bool is,.int .i64 n_1] (.int .i64 r):=by
 refine Q0 Zq9 ?_;unfold X3 at h;exact iB h
def Jm (N:Nat) (p:Q1):Option Int:=
 cond (Q4 .neq p.Kind 1)
 (some 0)
 ((X3 N p.HasUser 128).bind fun v2=>
 (X3 N p.HasPass 64).bind fun v4=>
 (X3 N p.Will.Retain 32).bind fun v6=>
 (X3 N p.HasWill 4).bind fun v8=>
 (X3 N p.Clean 2).bind fun v10=>
 some (wrap .i64 ((wrap .i64 ((wrap .i64 ((wrap .i64 ((wrap .i64 (v2+v4))+v6))+(wrap .i64 ((((wrap .i64 (((p.Will.QoS:Int).tmod 4)+4)):Int).tmod 4) * 8))))+v8))+v10)))
theorem Q9f {N} {p} {r} (h:Jm N p=some r):pU 190 [.agg (Q1.cells p)] (.int .i64 r):=by
 refine Q0 Znb ?_;unfold Jm at h;rw [cX] at h;refine iL h fun h=>?_;refine Ql ?_;refine cD h Vc p2 fun v2 h=>?_;refine cD h Vc p2 fun v4 h=>?_;refine cD h Vc p2 fun v6 h=>?_;refine cD h Vc p2 fun v8 h=>?_;refine cD h Vc p2 fun v10 h=>?_;cases h;exact (.p _)
def Qz (N:Nat) (s_0:List UInt8):Option (List UInt8):=
 (W8 N s_0).bind fun v1=>
 some v1.1
theorem Zw {N} {s_0} {r} (h:Qz N s_0=some r):pU 189 [.str s_0] (.str r):=by
 refine Q0 Zbc ?_;unfold Qz at h;refine cP h Q1h p1 fun v1 h=>?_;cases h;exact (.p _)
def Gp (N:Nat) (version:Int) (p:Q1):Option ((List UInt8)×Int):=
 (Vu N version p).bind fun v1=>
 cond (Q4 .neq v1 0)
 (some ([],v1))
 (cond (Q4 .eql p.Kind 2)
 ((X3 N p.Session 1).bind fun v5=>
 (Z0 N version p.Kind p.Props).bind fun v7=>
 cond (Nat.ble ([UInt8.ofNat (wrap .u8 v5).toNat,UInt8.ofNat (wrap .u8 p.Code).toNat].length+v7.length) 4611686018427387904) (some (([UInt8.ofNat (wrap .u8 v5).toNat,UInt8.ofNat (wrap .u8 p.Code).toNat]++v7),0)) none)
 ((Qz N [77,81,84,84]).bind fun v10=>
 (Jm N p).bind fun v12=>
 cond (Nat.ble (v10.length + [UInt8.ofNat (wrap .u8 version).toNat,UInt8.ofNat (wrap .u8 v12).toNat].length) 4611686018427387904) ((Zj N (wrap .u64 p.KeepAlive) 2).bind fun v15=>
 cond (Nat.ble ((v10 ++ [UInt8.ofNat (wrap .u8 version).toNat,UInt8.ofNat (wrap .u8 v12).toNat]).length+v15.length) 4611686018427387904) ((Z0 N version p.Kind p.Props).bind fun v18=>
 cond (Nat.ble (((v10 ++ [UInt8.ofNat (wrap .u8 version).toNat,UInt8.ofNat (wrap .u8 v12).toNat])++v15).length+v18.length) 4611686018427387904) ((Qz N p.Client).bind fun v21=>
 cond (Nat.ble ((((v10 ++ [UInt8.ofNat (wrap .u8 version).toNat,UInt8.ofNat (wrap .u8 v12).toNat])++v15)++v18).length+v21.length) 4611686018427387904) (cond p.HasWill
 ((Z0 N version 16 p.Will.Props).bind fun v25=>
 cond (Nat.ble (((((v10 ++ [UInt8.ofNat (wrap .u8 version).toNat,UInt8.ofNat (wrap .u8 v12).toNat])++v15)++v18)++v21).length+v25.length) 4611686018427387904) ((Qz N p.Will.Topic).bind fun v28=>
 cond (Nat.ble ((((((v10 ++ [UInt8.ofNat (wrap .u8 version).toNat,UInt8.ofNat (wrap .u8 v12).toNat])++v15)++v18)++v21)++v25).length+v28.length) 4611686018427387904) ((Qz N p.Will.Payload).bind fun v31=>
 cond (Nat.ble (((((((v10 ++ [UInt8.ofNat (wrap .u8 version).toNat,UInt8.ofNat (wrap .u8 v12).toNat])++v15)++v18)++v21)++v25)++v28).length+v31.length) 4611686018427387904) (cond p.HasUser
 ((Qz N p.User).bind fun v35=>
 cond (Nat.ble ((((((((v10 ++ [UInt8.ofNat (wrap .u8 version).toNat,UInt8.ofNat (wrap .u8 v12).toNat])++v15)++v18)++v21)++v25)++v28)++v31).length+v35.length) 4611686018427387904) (cond p.HasPass
 ((Qz N p.Pass).bind fun v39=>
 cond (Nat.ble (((((((((v10 ++ [UInt8.ofNat (wrap .u8 version).toNat,UInt8.ofNat (wrap .u8 v12).toNat])++v15)++v18)++v21)++v25)++v28)++v31)++v35).length+v39.length) 4611686018427387904) (some ((((((((((v10 ++ [UInt8.ofNat (wrap .u8 version).toNat,UInt8.ofNat (wrap .u8 v12).toNat])++v15)++v18)++v21)++v25)++v28)++v31)++v35)++v39),0)) none)
 (some (((((((((v10 ++ [UInt8.ofNat (wrap .u8 version).toNat,UInt8.ofNat (wrap .u8 v12).toNat])++v15)++v18)++v21)++v25)++v28)++v31)++v35),0))) none)
 (cond p.HasPass
 ((Qz N p.Pass).bind fun v43=>
 cond (Nat.ble ((((((((v10 ++ [UInt8.ofNat (wrap .u8 version).toNat,UInt8.ofNat (wrap .u8 v12).toNat])++v15)++v18)++v21)++v25)++v28)++v31).length+v43.length) 4611686018427387904) (some (((((((((v10 ++ [UInt8.ofNat (wrap .u8 version).toNat,UInt8.ofNat (wrap .u8 v12).toNat])++v15)++v18)++v21)++v25)++v28)++v31)++v43),0)) none)
 (some ((((((((v10 ++ [UInt8.ofNat (wrap .u8 version).toNat,UInt8.ofNat (wrap .u8 v12).toNat])++v15)++v18)++v21)++v25)++v28)++v31),0)))) none) none) none)
 (cond p.HasUser
 ((Qz N p.User).bind fun v47=>
 cond (Nat.ble (((((v10 ++ [UInt8.ofNat (wrap .u8 version).toNat,UInt8.ofNat (wrap .u8 v12).toNat])++v15)++v18)++v21).length+v47.length) 4611686018427387904) (cond p.HasPass
 ((Qz N p.Pass).bind fun v51=>
 cond (Nat.ble ((((((v10 ++ [UInt8.ofNat (wrap .u8 version).toNat,UInt8.ofNat (wrap .u8 v12).toNat])++v15)++v18)++v21)++v47).length+v51.length) 4611686018427387904) (some (((((((v10 ++ [UInt8.ofNat (wrap .u8 version).toNat,UInt8.ofNat (wrap .u8 v12).toNat])++v15)++v18)++v21)++v47)++v51),0)) none)
 (some ((((((v10 ++ [UInt8.ofNat (wrap .u8 version).toNat,UInt8.ofNat (wrap .u8 v12).toNat])++v15)++v18)++v21)++v47),0))) none)
 (cond p.HasPass
 ((Qz N p.Pass).bind fun v55=>
 cond (Nat.ble (((((v10 ++ [UInt8.ofNat (wrap .u8 version).toNat,UInt8.ofNat (wrap .u8 v12).toNat])++v15)++v18)++v21).length+v55.length) 4611686018427387904) (some ((((((v10 ++ [UInt8.ofNat (wrap .u8 version).toNat,UInt8.ofNat (wrap .u8 v12).toNat])++v15)++v18)++v21)++v55),0)) none)
 (some (((((v10 ++ [UInt8.ofNat (wrap .u8 version).toNat,UInt8.ofNat (wrap .u8 v12).toNat])++v15)++v18)++v21),0))))) none) none) none) none))
theorem Qac {N} {version} {p} {r} (h:Gp N version p=some r):pU 126 [.int .i64 version,.agg (Q1.cells p)] (.tuple [.str r.1,.int .i64 r.2]):=by
 refine Q0 Zm9 ?_;unfold Gp at h;rw [cX] at h;refine cP h Q4z zd fun v1 h=>?_;refine iL2 h fun h=>?_;apply iU h<;>intro h
 ·refine Ql ?_;refine cD h Vc p2 fun v5 h=>?_;refine cD h X0 p3 fun v7 h=>?_;refine kU h fun h=>?_;obtain rfl:=Qi h;exact u2
 refine Ql ?_;refine cD h Zw p1 fun v10 h=>?_;refine cD h Q9f zc fun v12 h=>?_;refine kU h fun h=>?_;refine cD h Y6 p2 fun v15 h=>?_;refine kU h fun h=>?_;refine cD h X0 p3 fun v18 h=>?_;refine kU h fun h=>?_;refine cD h Zw p1 fun v21 h=>?_;refine kU h fun h=>?_;apply iU h<;>intro h
 ·refine Ql ?_;refine cD h X0 p3 fun v25 h=>?_;refine kU h fun h=>?_;refine cD h Zw p1 fun v28 h=>?_;refine kU h fun h=>?_;refine cD h Zw p1 fun v31 h=>?_;refine kU h fun h=>?_;apply iU h<;>intro h
  ·refine cP h Zw p1 fun v35 h=>?_;refine kU h fun h=>?_;refine iR2 h fun h=>?_;refine cP h Zw p1 fun v39 h=>?_;refine kU h fun h=>?_;obtain rfl:=Qi h;exact u2
  refine iR2 h fun h=>?_;refine cP h Zw p1 fun v43 h=>?_;refine kU h fun h=>?_;obtain rfl:=Qi h;exact u2
 apply iU h<;>intro h
 ·refine cP h Zw p1 fun v47 h=>?_;refine kU h fun h=>?_;refine iR2 h fun h=>?_;refine cP h Zw p1 fun v51 h=>?_;refine kU h fun h=>?_;obtain rfl:=Qi h;exact u2
 refine iR2 h fun h=>?_;refine cP h Zw p1 fun v55 h=>?_;refine kU h fun h=>?_;obtain rfl:=Qi h;exact u2
def Gh (N:Nat) (version:Int) (p:Q1):Option ((List UInt8)×Int):=
 (Vp N version p).bind fun v1=>
 cond (Q4 .neq v1 0)
 (some ([],v1))
 ((W1 N p.Topic).bind fun v4=>
 cond (Q4 .gtr p.QoS 0)
 ((Zj N (wrap .u64 p.ID) 2).bind fun v7=>
 cond (Nat.ble (v4.1.length+v7.length) 4611686018427387904) ((Z0 N version 3 p.Props).bind fun v10=>
 cond (Nat.ble ((v4.1++v7).length+v10.length) 4611686018427387904) (cond (Nat.ble (((v4.1++v7)++v10).length+p.Payload.length) 4611686018427387904) (some ((((v4.1++v7)++v10)++p.Payload),0)) none) none) none)
 ((Z0 N version 3 p.Props).bind fun v14=>
 cond (Nat.ble (v4.1.length+v14.length) 4611686018427387904) (cond (Nat.ble ((v4.1++v14).length+p.Payload.length) 4611686018427387904) (some (((v4.1++v14)++p.Payload),0)) none) none))
theorem Qa9 {N} {version} {p} {r} (h:Gh N version p=some r):pU 127 [.int .i64 version,.agg (Q1.cells p)] (.tuple [.str r.1,.int .i64 r.2]):=by
 refine Q0 Zm2 ?_;unfold Gh at h;rw [cX] at h;refine cP h Q50 zd fun v1 h=>?_;refine iL2 h fun h=>?_;refine cP h Q5a p1 fun v4 h=>?_;apply iU h<;>intro h
 ·refine cP h Y6 p2 fun v7 h=>?_;refine kU h fun h=>?_;refine Ql ?_;refine cD h X0 p3 fun v10 h=>?_;refine kU h fun h=>?_;refine kU h fun h=>?_;obtain rfl:=Qi h;exact u2
 refine Ql ?_;refine cD h X0 p3 fun v14 h=>?_;refine kU h fun h=>?_;refine kU h fun h=>?_;obtain rfl:=Qi h;exact u2
def V4 (N:Nat) (version:Int) (p:Q1):Option (List UInt8):=
 cond (Q4 .leq p.Kind 2)
 ((Gp N version p).bind fun v2=>
 some v2.1)
 (cond (Q4 .eql p.Kind 3)
 ((Gh N version p).bind fun v5=>
 some v5.1)
 (cond (Q4 .leq p.Kind 7)
 ((Gw N version p).bind fun v8=>
 some v8.1)
 (cond (Q4 .leq p.Kind 11)
 ((Gn N version p).bind fun v11=>
 some v11.1)
 ((Gu N version p).bind fun v13=>
 some v13.1))))
theorem Q5p {N} {version} {p} {r} (h:V4 N version p=some r):pU 71 [.int .i64 version,.agg (Q1.cells p)] (.str r):=by
 refine Q0 k71 ?_;unfold V4 at h;rw [cX] at h;apply iU h<;>intro h
 ·refine cP h Qac zd fun v2 h=>?_;cases h;exact (.p _)
 apply iU h<;>intro h
 ·refine cP h Qa9 zd fun v5 h=>?_;cases h;exact (.p _)
 apply iU h<;>intro h
 ·refine cP h Qa7 zd fun v8 h=>?_;cases h;exact (.p _)
 apply iU h<;>intro h
 ·refine cP h Qay zd fun v11 h=>?_;cases h;exact (.p _)
 refine cP h Qb4 zd fun v13 h=>?_;cases h;exact (.p _)
def Vx (N:Nat) (version:Int) (p:Q1):Option ((List UInt8)×Int):=
 (Z7 N version).bind fun v1=>
 cond (!v1)
 (some ([],2))
 (cond (Q4 .lss p.Kind 1)
 (some ([],8))
 (cond (Q4 .gtr p.Kind 15)
 (some ([],8))
 (cond (Q4 .eql p.Kind 15)
 (cond (Q4 .eql version 4)
 (some ([],8))
 ((Wl N version p).bind fun v8=>
 cond (Q4 .neq v8 0)
 (some ([],v8))
 ((V4 N version p).bind fun v11=>
 cond (Q4 .gtr (v11.length:Int) 268435455)
 (some ([],4))
 (some (v11,0)))))
 ((Wl N version p).bind fun v14=>
 cond (Q4 .neq v14 0)
 (some ([],v14))
 ((V4 N version p).bind fun v17=>
 cond (Q4 .gtr (v17.length:Int) 268435455)
 (some ([],4))
 (some (v17,0)))))))
theorem Q4x {N} {version} {p} {r} (h:Vx N version p=some r):pU 52 [.int .i64 version,.agg (Q1.cells p)] (.tuple [.str r.1,.int .i64 r.2]):=by
 refine Q0 k52 ?_;unfold Vx at h;rw [cX] at h;refine cP h Y9 p1 fun v1 h=>?_;refine iL2 h fun h=>?_;refine iL2 h fun h=>?_;refine iL2 h fun h=>?_;apply iU h<;>intro h
 ·refine iL2 h fun h=>?_;refine cP h Q51 zd fun v8 h=>?_;refine iL2 h fun h=>?_;refine cP h Q5p zd fun v11 h=>?_;exact iB2 h
 refine cP h Q51 zd fun v14 h=>?_;refine iL2 h fun h=>?_;refine cP h Q5p zd fun v17 h=>?_;exact iB2 h
def U2 (N:Nat) (version:Int) (p:Q1):Option Int:=
 (Vx N version p).bind fun v1=>
 some v1.2
theorem Q4w {N} {version} {p} {r} (h:U2 N version p=some r):pU 27 [.int .i64 version,.agg (Q1.cells p)] (.int .i64 r):=by
 refine Q0 k27 ?_;unfold U2 at h;refine cP h Q4x zd fun v1 h=>?_;cases h;exact (.p _)
end
end
end Go.Av
