/- Part of the proof of FrommqttBack: for every input the law returns true; no condition. -/
import Derived.Test.YteblaejaahpnaaaGreatDoorLiftF2
set_option linter.all false
open Go.IntKind (wrap)
namespace Go.Av
noncomputable section
open Go.Proofs
set_option maxRecDepth 100000
set_option maxHeartbeats 4000000
attribute [local irreducible] Gu U7 Qdf Qij Qut Qug Qi3
section
def U0 (N:Nat) (version:Int) (p:Q1):Option Int:=
 (Z8 N version).bind fun v1=>
 cond (!v1)
 (some 2)
 (cond (Q3 .neq p.Kind 3)
 (some 2)
 ((Xo N version p).bind fun v5=>
 cond (Q3 .neq v5.2 0)
 (some v5.2)
 ((Qi N p (⟨p.Kind,p.Dup,p.Retain,p.QoS,p.ID,p.Topic,p.Payload,false,0,[],false,[],false,[],false,(⟨[],[],0,false,[]⟩:Xn),false,0,[],[],p.Props⟩:Q1)).bind fun v8=>
 cond (!v8)
 (some 2)
 (cond (Q3 .eql p.QoS 0)
 (cond (Q3 .neq p.ID 0)
 (some 2)
 (cond (Q3 .gtr p.QoS 0)
 (cond (Q3 .lss p.ID 1)
 (some 2)
 (cond (Q3 .gtr p.ID 65535)
 (some 2)
 (cond (Q3 .eql version 4)
 (cond (Q3 .gtr ((Q6 Qb.cells p.Props).length:Int) 0)
 (some 2)
 ((Z4 N p).bind fun v18=>
 (Qr N p.Topic).bind fun v20=>
 cond (!v20)
 (cond (Q0p .eql p.Topic [])
 (cond v18.2
 (cond (!(Q3 .eql version 5))
 (some 10)
 ((Q5 N version 3 p.Props).bind fun v26=>
 some v26))
 (some 10))
 (some 10))
 ((Q5 N version 3 p.Props).bind fun v28=>
 some v28)))
 ((Z4 N p).bind fun v30=>
 (Qr N p.Topic).bind fun v32=>
 cond (!v32)
 (cond (Q0p .eql p.Topic [])
 (cond v30.2
 (cond (!(Q3 .eql version 5))
 (some 10)
 ((Q5 N version 3 p.Props).bind fun v38=>
 some v38))
 (some 10))
 (some 10))
 ((Q5 N version 3 p.Props).bind fun v40=>
 some v40)))))
 (cond (Q3 .eql version 4)
 (cond (Q3 .gtr ((Q6 Qb.cells p.Props).length:Int) 0)
 (some 2)
 ((Z4 N p).bind fun v44=>
 (Qr N p.Topic).bind fun v46=>
 cond (!v46)
 (cond (Q0p .eql p.Topic [])
 (cond v44.2
 (cond (!(Q3 .eql version 5))
 (some 10)
 ((Q5 N version 3 p.Props).bind fun v52=>
 some v52))
 (some 10))
 (some 10))
 ((Q5 N version 3 p.Props).bind fun v54=>
 some v54)))
 ((Z4 N p).bind fun v56=>
 (Qr N p.Topic).bind fun v58=>
 cond (!v58)
 (cond (Q0p .eql p.Topic [])
 (cond v56.2
 (cond (!(Q3 .eql version 5))
 (some 10)
 ((Q5 N version 3 p.Props).bind fun v64=>
 some v64))
 (some 10))
 (some 10))
 ((Q5 N version 3 p.Props).bind fun v66=>
 some v66)))))
 (cond (Q3 .gtr p.QoS 0)
 (cond (Q3 .lss p.ID 1)
 (some 2)
 (cond (Q3 .gtr p.ID 65535)
 (some 2)
 (cond (Q3 .eql version 4)
 (cond (Q3 .gtr ((Q6 Qb.cells p.Props).length:Int) 0)
 (some 2)
 ((Z4 N p).bind fun v73=>
 (Qr N p.Topic).bind fun v75=>
 cond (!v75)
 (cond (Q0p .eql p.Topic [])
 (cond v73.2
 (cond (!(Q3 .eql version 5))
 (some 10)
 ((Q5 N version 3 p.Props).bind fun v81=>
 some v81))
 (some 10))
 (some 10))
 ((Q5 N version 3 p.Props).bind fun v83=>
 some v83)))
 ((Z4 N p).bind fun v85=>
 (Qr N p.Topic).bind fun v87=>
 cond (!v87)
 (cond (Q0p .eql p.Topic [])
 (cond v85.2
 (cond (!(Q3 .eql version 5))
 (some 10)
 ((Q5 N version 3 p.Props).bind fun v93=>
 some v93))
 (some 10))
 (some 10))
 ((Q5 N version 3 p.Props).bind fun v95=>
 some v95)))))
 (cond (Q3 .eql version 4)
 (cond (Q3 .gtr ((Q6 Qb.cells p.Props).length:Int) 0)
 (some 2)
 ((Z4 N p).bind fun v99=>
 (Qr N p.Topic).bind fun v101=>
 cond (!v101)
 (cond (Q0p .eql p.Topic [])
 (cond v99.2
 (cond (!(Q3 .eql version 5))
 (some 10)
 ((Q5 N version 3 p.Props).bind fun v107=>
 some v107))
 (some 10))
 (some 10))
 ((Q5 N version 3 p.Props).bind fun v109=>
 some v109)))
 ((Z4 N p).bind fun v111=>
 (Qr N p.Topic).bind fun v113=>
 cond (!v113)
 (cond (Q0p .eql p.Topic [])
 (cond v111.2
 (cond (!(Q3 .eql version 5))
 (some 10)
 ((Q5 N version 3 p.Props).bind fun v119=>
 some v119))
 (some 10))
 (some 10))
 ((Q5 N version 3 p.Props).bind fun v121=>
 some v121))))))))
theorem Q4h {N} {version} {p} {r} (h:U0 N version p=some r):pU 83 [.int .i64 version,.agg (Q1.cells p)] (.int .i64 r):=by
 refine Q0 k83 ?_;unfold U0 at h;rw [cX,cY] at h;refine cP h Y8 p1 fun v1 h=>?_;refine iL h fun h=>?_;refine iL h fun h=>?_;refine cP h Q4b (.cons (.p _) (.cons (Ap (Qo (f2_ (f1_ (.cons (.p _) p5))))) .nil)) fun v5 h=>?_;refine iL h fun h=>?_;refine cP h Qs (.cons (Ap (Qo (f2_ (f1_ (.cons (.p _) p5))))) (.cons (Ap (Qo (f2_ (f1_ (.cons (.nil _) (f2_ (.cons (.nil _) (.cons (.nil _) p1)))))))) .nil)) fun v8 h=>?_;refine iL h fun h=>?_;apply iU h<;>intro h
 ·refine iL h fun h=>?_;apply iU h<;>intro h
  ·refine iL h fun h=>?_;refine iL h fun h=>?_;apply iU h<;>intro h
   ·refine iL h fun h=>?_;refine cP h Yr (.cons (Ap (Qo (f2_ (f1_ (.cons (.p _) p5))))) .nil) fun v18 h=>?_;refine cP h Zm p1 fun v20 h=>?_;apply iU h<;>intro h
    ·refine iR h fun h=>?_;refine iR h fun h=>?_;refine iL h fun h=>?_;refine cP h Q7 p3 fun v26 h=>?_;cases h;exact (.p _)
    refine cP h Q7 p3 fun v28 h=>?_;cases h;exact (.p _)
   refine cP h Yr (.cons (Ap (Qo (f2_ (f1_ (.cons (.p _) p5))))) .nil) fun v30 h=>?_;refine cP h Zm p1 fun v32 h=>?_;apply iU h<;>intro h
   ·refine iR h fun h=>?_;refine iR h fun h=>?_;refine iL h fun h=>?_;refine cP h Q7 p3 fun v38 h=>?_;cases h;exact (.p _)
   refine cP h Q7 p3 fun v40 h=>?_;cases h;exact (.p _)
  apply iU h<;>intro h
  ·refine iL h fun h=>?_;refine cP h Yr (.cons (Ap (Qo (f2_ (f1_ (.cons (.p _) p5))))) .nil) fun v44 h=>?_;refine cP h Zm p1 fun v46 h=>?_;apply iU h<;>intro h
   ·refine iR h fun h=>?_;refine iR h fun h=>?_;refine iL h fun h=>?_;refine cP h Q7 p3 fun v52 h=>?_;cases h;exact (.p _)
   refine cP h Q7 p3 fun v54 h=>?_;cases h;exact (.p _)
  refine cP h Yr (.cons (Ap (Qo (f2_ (f1_ (.cons (.p _) p5))))) .nil) fun v56 h=>?_;refine cP h Zm p1 fun v58 h=>?_;apply iU h<;>intro h
  ·refine iR h fun h=>?_;refine iR h fun h=>?_;refine iL h fun h=>?_;refine cP h Q7 p3 fun v64 h=>?_;cases h;exact (.p _)
  refine cP h Q7 p3 fun v66 h=>?_;cases h;exact (.p _)
 apply iU h<;>intro h
 ·refine iL h fun h=>?_;refine iL h fun h=>?_;apply iU h<;>intro h
  ·refine iL h fun h=>?_;refine cP h Yr (.cons (Ap (Qo (f2_ (f1_ (.cons (.p _) p5))))) .nil) fun v73 h=>?_;refine cP h Zm p1 fun v75 h=>?_;apply iU h<;>intro h
   ·refine iR h fun h=>?_;refine iR h fun h=>?_;refine iL h fun h=>?_;refine cP h Q7 p3 fun v81 h=>?_;cases h;exact (.p _)
   refine cP h Q7 p3 fun v83 h=>?_;cases h;exact (.p _)
  refine cP h Yr (.cons (Ap (Qo (f2_ (f1_ (.cons (.p _) p5))))) .nil) fun v85 h=>?_;refine cP h Zm p1 fun v87 h=>?_;apply iU h<;>intro h
  ·refine iR h fun h=>?_;refine iR h fun h=>?_;refine iL h fun h=>?_;refine cP h Q7 p3 fun v93 h=>?_;cases h;exact (.p _)
  refine cP h Q7 p3 fun v95 h=>?_;cases h;exact (.p _)
 apply iU h<;>intro h
 ·refine iL h fun h=>?_;refine cP h Yr (.cons (Ap (Qo (f2_ (f1_ (.cons (.p _) p5))))) .nil) fun v99 h=>?_;refine cP h Zm p1 fun v101 h=>?_;apply iU h<;>intro h
  ·refine iR h fun h=>?_;refine iR h fun h=>?_;refine iL h fun h=>?_;refine cP h Q7 p3 fun v107 h=>?_;cases h;exact (.p _)
  refine cP h Q7 p3 fun v109 h=>?_;cases h;exact (.p _)
 refine cP h Yr (.cons (Ap (Qo (f2_ (f1_ (.cons (.p _) p5))))) .nil) fun v111 h=>?_;refine cP h Zm p1 fun v113 h=>?_;apply iU h<;>intro h
 ·refine iR h fun h=>?_;refine iR h fun h=>?_;refine iL h fun h=>?_;refine cP h Q7 p3 fun v119 h=>?_;cases h;exact (.p _)
 refine cP h Q7 p3 fun v121 h=>?_;cases h;exact (.p _)
def Jq (N:Nat) (version:Int) (p:Q1):Option Bool:=
 (Z8 N version).bind fun v1=>
 cond (!v1)
 (some false)
 (cond (Q3 .lss p.Kind 4)
 (some false)
 (cond (Q3 .gtr p.Kind 7)
 (some false)
 (cond (Q3 .eql version 4)
 (cond (Q3 .neq p.Code 0)
 ((Qi N p (⟨p.Kind,false,false,0,p.ID,[],[],false,0,[],false,[],false,[],false,(⟨[],[],0,false,[]⟩:Xn),false,p.Code,[],[],p.Props⟩:Q1)).bind fun v8=>
 cond v8
 (some false)
 (some false))
 ((Qi N p (⟨p.Kind,false,false,0,p.ID,[],[],false,0,[],false,[],false,[],false,(⟨[],[],0,false,[]⟩:Xn),false,p.Code,[],[],p.Props⟩:Q1)).bind fun v11=>
 cond v11
 (cond (!(Q3 .gtr ((Q6 Qb.cells p.Props).length:Int) 0))
 (cond (Q3 .geq p.ID 1)
 (cond (Q3 .leq p.ID 65535)
 ((Z1 N p.Kind p.Code).bind fun v17=>
 some v17)
 (some false))
 (some false))
 (some false))
 (some false)))
 ((Qi N p (⟨p.Kind,false,false,0,p.ID,[],[],false,0,[],false,[],false,[],false,(⟨[],[],0,false,[]⟩:Xn),false,p.Code,[],[],p.Props⟩:Q1)).bind fun v19=>
 cond v19
 (cond (Q3 .geq p.ID 1)
 (cond (Q3 .leq p.ID 65535)
 ((Z1 N p.Kind p.Code).bind fun v24=>
 some v24)
 (some false))
 (some false))
 (some false)))))
theorem Q9c {N} {version} {p} {r} (h:Jq N version p=some r):pU 156 [.int .i64 version,.agg (Q1.cells p)] (.bool r):=by
 refine Q0 Z9n ?_;unfold Jq at h;rw [cX] at h;refine cP h Y8 p1 fun v1 h=>?_;refine iL h fun h=>?_;refine iL h fun h=>?_;refine iL h fun h=>?_;apply iU h<;>intro h
 ·apply iU h<;>intro h
  ·refine cP h Qs (.cons (Ap (Qo (f2_ (f1_ (.cons (.p _) p5))))) (.cons (Ap (Qo (f2_ (f1_ (.cons (.nil _) (f2_ (.cons (.nil _) (.cons (.nil _) p1)))))))) .nil)) fun v8 h=>?_;exact iB h
  refine cP h Qs (.cons (Ap (Qo (f2_ (f1_ (.cons (.p _) p5))))) (.cons (Ap (Qo (f2_ (f1_ (.cons (.nil _) (f2_ (.cons (.nil _) (.cons (.nil _) p1)))))))) .nil)) fun v11 h=>?_;refine iR h fun h=>?_;refine iR h fun h=>?_;refine iR h fun h=>?_;refine iR h fun h=>?_;refine cP h Yi p2 fun v17 h=>?_;cases h;exact (.p _)
 refine cP h Qs (.cons (Ap (Qo (f2_ (f1_ (.cons (.p _) p5))))) (.cons (Ap (Qo (f2_ (f1_ (.cons (.nil _) (f2_ (.cons (.nil _) (.cons (.nil _) p1)))))))) .nil)) fun v19 h=>?_;refine iR h fun h=>?_;refine iR h fun h=>?_;refine iR h fun h=>?_;refine cP h Yi p2 fun v24 h=>?_;cases h;exact (.p _)
def U2 (N:Nat) (version:Int) (p:Q1):Option Int:=
 (Jq N version p).bind fun v1=>
 cond (!v1)
 (some 2)
 ((Q5 N version p.Kind p.Props).bind fun v4=>
 some v4)
theorem Q4d {N} {version} {p} {r} (h:U2 N version p=some r):pU 84 [.int .i64 version,.agg (Q1.cells p)] (.int .i64 r):=by
 refine Q0 k84 ?_;unfold U2 at h;refine cP h Q9c (.cons (.p _) (.cons (Ap (Qo (f2_ (f1_ (.cons (.p _) p5))))) .nil)) fun v1 h=>?_;refine iL h fun h=>?_;refine cP h Q7 p3 fun v4 h=>?_;cases h;exact (.p _)
def Jr (_N:Nat) (code:Int):Option Bool:=
 cond (Q3 .eql code 0)
 (some true)
 (cond (Q3 .eql code 1)
 (some true)
 (cond (Q3 .eql code 2)
 (some true)
 (some (Q3 .eql code 128))))
theorem Q8q {N} {code} {r} (h:Jr N code=some r):pU 230 [.int .i64 code] (.bool r):=by
 refine Q0 Zj9 ?_;unfold Jr at h;rw [cX] at h;refine iL h fun h=>?_;refine iL h fun h=>?_;exact iB h
def V5 (N:Nat) (version:Int) (kind:Int) (n_2:Int):Option Bool:=
 cond (Q3 .eql version 4)
 ((Jr N n_2).bind fun v2=>
 some v2)
 ((Z1 N kind n_2).bind fun v4=>
 some v4)
theorem Q23 {N} {version} {kind} {n_2} {r} (h:V5 N version kind n_2=some r):pU 160 [.int .i64 version,.int .i64 kind,.int .i64 n_2] (.bool r):=by
 refine Q0 Zmk ?_;unfold V5 at h;rw [cX] at h;apply iU h<;>intro h
 ·refine cP h Q8q p1 fun v2 h=>?_;cases h;exact (.p _)
 refine cP h Yi p2 fun v4 h=>?_;cases h;exact (.p _)
def Q0w (_N:Nat) (kind:Int):Option Bool:=
 cond (Q3 .geq kind 8)
 (some (Q3 .leq kind 11))
 (some false)
theorem Q9h {N} {kind} {r} (h:Q0w N kind=some r):pU 149 [.int .i64 kind] (.bool r):=by
 refine Q0 Zkl ?_;unfold Q0w at h;rw [cX] at h;exact iB h
def Q1c (_N:Nat) (kind:Int):Option Bool:=
 cond (Q3 .eql kind 8)
 (some true)
 (some (Q3 .eql kind 10))
theorem Qa2 {N} {kind} {r} (h:Q1c N kind=some r):pU 150 [.int .i64 kind] (.bool r):=by
 refine Q0 Zdv ?_;unfold Q1c at h;rw [cX] at h;exact iB h
def Ga (N:Nat) (version:Int) (p:Q1):Option (Q1):=
 (Q1c N p.Kind).bind fun v1=>
 cond v1
 (some (⟨p.Kind,false,false,0,p.ID,[],[],false,0,[],false,[],false,[],false,(⟨[],[],0,false,[]⟩:Xn),false,0,[],p.Filters,p.Props⟩:Q1))
 (cond (Q3 .eql p.Kind 9)
 (some (⟨p.Kind,false,false,0,p.ID,[],[],false,0,[],false,[],false,[],false,(⟨[],[],0,false,[]⟩:Xn),false,0,p.Codes,[],p.Props⟩:Q1))
 (cond (Q3 .eql version 5)
 (some (⟨p.Kind,false,false,0,p.ID,[],[],false,0,[],false,[],false,[],false,(⟨[],[],0,false,[]⟩:Xn),false,0,p.Codes,[],p.Props⟩:Q1))
 (some (⟨p.Kind,false,false,0,p.ID,[],[],false,0,[],false,[],false,[],false,(⟨[],[],0,false,[]⟩:Xn),false,0,[],[],p.Props⟩:Q1))))
theorem Qa9 {N} {version} {p} {r} (h:Ga N version p=some r):pU 157 [.int .i64 version,.agg (Q1.cells p)] (.agg (Q1.cells r)):=by
 refine Q0 Zeb ?_;unfold Ga at h;rw [cX] at h;refine cP h Qa2 p1 fun v1 h=>?_;apply iU h<;>intro h
 ·obtain rfl:=Qm h;exact (Ap (Qo (f2_ (f1_ (.cons (.nil _) (f2_ (.cons (.nil _) p2)))))))
 apply iU h<;>intro h
 ·obtain rfl:=Qm h;exact (Ap (Qo (f2_ (f1_ (.cons (.nil _) (f2_ (f1_ (.cons (.nil _) p1))))))))
 apply iU h<;>intro h
 ·obtain rfl:=Qm h;exact (Ap (Qo (f2_ (f1_ (.cons (.nil _) (f2_ (f1_ (.cons (.nil _) p1))))))))
 obtain rfl:=Qm h;exact (Ap (Qo (f2_ (f1_ (.cons (.nil _) (f2_ (.cons (.nil _) (.cons (.nil _) p1))))))))
def Zt (N:Nat) (s_0:List UInt8):Nat→Int→Int→(List (List UInt8))→Option (List (List UInt8))
 | 0,_,_,_=>none
 | n+1,from16,i17,l18=>
  cond (Q3 .lss i17 (s_0.length:Int))
  ((idx s_0 i17).bind fun b20=>
  cond (Q3 .eql (b20.toNat:Int) 47)
  (cond (decide (0≤from16)) (cond (decide (0≤i17)) (cond (Nat.ble from16.toNat i17.toNat&&Nat.ble i17.toNat s_0.length) (cond (Nat.ble ((l18.length+1+4096) * 16) 17592186044416) (Zt N s_0 n (wrap .i64 (i17+1)) (wrap .i64 (i17+1)) (l18 ++ [((s_0.take i17.toNat).drop from16.toNat)])) none) none) none) none)
  (Zt N s_0 n from16 (wrap .i64 (i17+1)) l18))
  (cond (decide (0≤from16)) (cond (Nat.ble from16.toNat s_0.length&&Nat.ble s_0.length s_0.length) (cond (Nat.ble ((l18.length+1+4096) * 16) 17592186044416) (some (l18 ++ [((s_0.take s_0.length).drop from16.toNat)])) none) none) none)
def Vd (N:Nat) (s_0:List UInt8):Option (List (List UInt8)):=
 Zt N s_0 N 0 0 []
theorem Q3n {N} {s_0} {r} (h:Vd N s_0=some r):pU 228 [.str s_0] (.slice 1 (Q6 cS r)):=by
 refine Q0 Zhk ?_;unfold Vd at h;refine lpA (τ:=Int×Int×(List (List UInt8))) (fun ⟨from16,i17,l18⟩=>(iS s_0 :: .any :: .any :: .slice 1 0 0 l18.length::iI from16::iI i17::a16 (a8 (.any :: [])):List AV)) (fun ⟨_,_,l18⟩=>(.cells (Q18 cS l18) :: []:List AObj)) (fun n0 ⟨from16,i17,l18⟩=>Zt N s_0 n0 from16 i17 l18) (0,0,[]) h fun n0 ⟨from16,i17,l18⟩ h=>?_
 first | rw [Zt] at h | simp only [Zt] at h
 rw [cX] at h;apply iU h<;>intro h
 ·refine xB h fun b20 h=>?_;apply iU h<;>intro h
  ·refine kU h fun h=>?_;refine kU h fun h=>?_;refine kU h fun h=>?_;obtain ⟨hk26,h⟩:=Q99 h;refine Q37 (Wy (c:=cS) (e:=1) (fun _=>rfl) sd hk26) ?_;refine Q0f (c:=cS) [((s_0.take i17.toNat).drop from16.toNat)] rfl ?_;show Exists _;exact ⟨(n0,(wrap .i64 (i17+1)),(wrap .i64 (i17+1)),(l18 ++ [((s_0.take i17.toNat).drop from16.toNat)])),h,Lf _,(rho [2]),Yn⟩
  show Exists _;exact ⟨(n0,from16,(wrap .i64 (i17+1)),l18),h,Lf _,(fun i=>i),Yn⟩
 refine kU h fun h=>?_;refine kU h fun h=>?_;obtain ⟨hk29,h⟩:=Q99 h;refine Q37 (Wy (c:=cS) (e:=1) (fun _=>rfl) sd hk29) ?_;refine Q0f (c:=cS) [((s_0.take s_0.length).drop from16.toNat)] rfl ?_;obtain rfl:=Qm h;exact (frz_own (c:=cS) (l:=((l18 ++ [((s_0.take s_0.length).drop from16.toNat)]):List (List UInt8))) (fun _=>rfl) rfl trivial sd)
def Qt (N:Nat) (v5:List (List UInt8)):Nat→Int→Option Bool
 | 0,_=>none
 | n+1,i62=>
  cond (Q3 .lss i62 ((Q6 cS v5).length:Int))
  ((idx v5 i62).bind fun y64=>
  (Y7 N y64 43).bind fun v66=>
  cond v66
  ((idx v5 i62).bind fun y69=>
  cond (Q0p .neq y69 [43])
  (some false)
  ((idx v5 i62).bind fun y72=>
  (Y7 N y72 35).bind fun v74=>
  cond v74
  ((idx v5 i62).bind fun y77=>
  cond (Q0p .neq y77 [35])
  (some false)
  (cond (Q3 .lss (wrap .i64 (i62+1)) ((Q6 cS v5).length:Int))
  (some false)
  (Qt N v5 n (wrap .i64 (i62+1)))))
  (Qt N v5 n (wrap .i64 (i62+1)))))
  ((idx v5 i62).bind fun y81=>
  (Y7 N y81 35).bind fun v83=>
  cond v83
  ((idx v5 i62).bind fun y86=>
  cond (Q0p .neq y86 [35])
  (some false)
  (cond (Q3 .lss (wrap .i64 (i62+1)) ((Q6 cS v5).length:Int))
  (some false)
  (Qt N v5 n (wrap .i64 (i62+1)))))
  (Qt N v5 n (wrap .i64 (i62+1)))))
  (some true)
def Yj (N:Nat) (s_0:List UInt8):Option Bool:=
 cond (Q0p .eql s_0 [])
 (some false)
 ((Y1 N s_0).bind fun v2=>
 cond (!v2)
 (some false)
 ((Vd N s_0).bind fun v5=>
 Qt N v5 N 0))
theorem Jc {N} {s_0} {r} (h:Yj N s_0=some r):pU 158 [.str s_0] (.bool r):=by
 refine Q0 Zcm ?_;unfold Yj at h;rw [cY] at h;refine iL h fun h=>?_;refine cP h Yo p1 fun v2 h=>?_;refine iL h fun h=>?_;refine cP h Q3n p1 fun v5 h=>?_;refine lpH (τ:=Int) (fun i62=>(a2 (.any :: .p (.slice 1 (Q6 cS v5))::iI i62::a16 (a16 (a16 ([])))):List AV)) (fun n0 i62=>Qt N v5 n0 i62) (0) h fun n0 i62 h=>?_
 first | rw [Qt] at h | simp only [Qt] at h
 rw [cX,cY] at h;refine iR h fun h=>?_;refine xR h fun y64 h=>?_;refine cP h W9 p2 fun v66 h=>?_;apply iU h<;>intro h
 ·refine xR h fun y69 h=>?_;refine iL h fun h=>?_;refine xR h fun y72 h=>?_;refine cP h W9 p2 fun v74 h=>?_;apply iU h<;>intro h
  ·refine xR h fun y77 h=>?_;refine iL h fun h=>?_;refine iL h fun h=>?_;show Exists _;exact ⟨(n0,(wrap .i64 (i62+1))),h,Lf _,(fun i=>i),Yn⟩
  show Exists _;exact ⟨(n0,(wrap .i64 (i62+1))),h,Lf _,(fun i=>i),Yn⟩
 refine xR h fun y81 h=>?_;refine cP h W9 p2 fun v83 h=>?_;apply iU h<;>intro h
 ·refine xR h fun y86 h=>?_;refine iL h fun h=>?_;refine iL h fun h=>?_;show Exists _;exact ⟨(n0,(wrap .i64 (i62+1))),h,Lf _,(fun i=>i),Yn⟩
 show Exists _;exact ⟨(n0,(wrap .i64 (i62+1))),h,Lf _,(fun i=>i),Yn⟩
def Yb (N:Nat) (levels:List (List UInt8)):Nat→(List UInt8)→Int→Option (List UInt8)
 | 0,_,_=>none
 | n+1,out16,i17=>
  cond (Q3 .lss i17 ((Q6 cS levels).length:Int))
  (cond (Q3 .gtr i17 0)
  (cond (Nat.ble (out16.length + [47].length) 4611686018427387904) ((idx levels i17).bind fun y21=>
  cond (Nat.ble ((out16 ++ [47]).length+y21.length) 4611686018427387904) (Yb N levels n ((out16 ++ [47])++y21) (wrap .i64 (i17+1))) none) none)
  ((idx levels i17).bind fun y24=>
  cond (Nat.ble (out16.length+y24.length) 4611686018427387904) (Yb N levels n (out16++y24) (wrap .i64 (i17+1))) none))
  (some out16)
def Gk (N:Nat) (levels:List (List UInt8)):Option (List UInt8):=
 Yb N levels N [] 0
theorem Qak {N} {levels} {r} (h:Gk N levels=some r):pU 288 [.slice 1 (Q6 cS levels)] (.str r):=by
 refine Q0 Zhf ?_;unfold Gk at h;refine lpH (τ:=(List UInt8)×Int) (fun ⟨out16,i17⟩=>(.p (.slice 1 (Q6 cS levels)) :: .any :: .any::iS out16::iI i17::a16 (.any :: []):List AV)) (fun n0 ⟨out16,i17⟩=>Yb N levels n0 out16 i17) ([],0) h fun n0 ⟨out16,i17⟩ h=>?_
 first | rw [Yb] at h | simp only [Yb] at h
 rw [cX] at h;refine iR h fun h=>?_;apply iU h<;>intro h
 ·refine kU h fun h=>?_;refine xR h fun y21 h=>?_;refine kU h fun h=>?_;show Exists _;exact ⟨(n0,((out16 ++ [47])++y21),(wrap .i64 (i17+1))),h,Lf _,(fun i=>i),Yn⟩
 refine xR h fun y24 h=>?_;refine kU h fun h=>?_;show Exists _;exact ⟨(n0,(out16++y24),(wrap .i64 (i17+1))),h,Lf _,(fun i=>i),Yn⟩
def Uw (N:Nat) (s_0:List UInt8):Option ((List UInt8)×(List UInt8)×Bool):=
 (Y1 N s_0).bind fun v1=>
 cond (!v1)
 (some ([],[],false))
 (cond (Q3 .lss (s_0.length:Int) 7)
 (some ([],[],false))
 (cond (Nat.ble 0 7&&Nat.ble 7 s_0.length) (cond (Q0p .neq ((s_0.take 7).drop 0) [36,115,104,97,114,101,47])
 (some ([],[],false))
 ((Vd N s_0).bind fun v7=>
 cond (Q3 .lss ((Q6 cS v7).length:Int) 3)
 (some ([],[],false))
 ((idx v7 1).bind fun y10=>
 cond (Q0p .eql y10 [])
 (some ([],[],false))
 ((idx v7 1).bind fun y13=>
 (Y7 N y13 43).bind fun v15=>
 cond v15
 (some ([],[],false))
 ((idx v7 1).bind fun y18=>
 (Y7 N y18 35).bind fun v20=>
 cond v20
 (some ([],[],false))
 (cond (Nat.ble 2 (Q6 cS v7).length&&Nat.ble (Q6 cS v7).length (Q6 cS v7).length) ((Gk N (v7.drop 2)).bind fun v24=>
 (Yj N v24).bind fun v26=>
 cond (!v26)
 (some ([],[],false))
 ((idx v7 1).bind fun y29=>
 some (y29,v24,true))) none)))))) none))
theorem Q8e {N} {s_0} {r} (h:Uw N s_0=some r):pU 229 [.str s_0] (.tuple [.str r.1,.str r.2.1,.bool r.2.2]):=by
 refine Q0 Zmm ?_;unfold Uw at h;rw [cX,cY] at h;refine cP h Yo p1 fun v1 h=>?_;apply iU h<;>intro h
 ·obtain rfl:=Qm h;exact u3
 apply iU h<;>intro h
 ·obtain rfl:=Qm h;exact u3
 refine kU h fun h=>?_;apply iU h<;>intro h
 ·obtain rfl:=Qm h;exact u3
 refine cP h Q3n p1 fun v7 h=>?_;apply iU h<;>intro h
 ·obtain rfl:=Qm h;exact u3
 refine xR h fun y10 h=>?_;apply iU h<;>intro h
 ·obtain rfl:=Qm h;exact u3
 refine xR h fun y13 h=>?_;refine cP h W9 p2 fun v15 h=>?_;apply iU h<;>intro h
 ·obtain rfl:=Qm h;exact u3
 refine xR h fun y18 h=>?_;refine cP h W9 p2 fun v20 h=>?_;apply iU h<;>intro h
 ·obtain rfl:=Qm h;exact u3
 refine kU h fun h=>?_;refine cP h Qak (.cons (Qzr (c:=cS)) .nil) fun v24 h=>?_;refine cP h Jc p1 fun v26 h=>?_;apply iU h<;>intro h
 ·obtain rfl:=Qm h;exact u3
 refine xR h fun y29 h=>?_;obtain rfl:=Qm h;exact u3
def Yz (N:Nat) (version:Int) (kind:Int) (f:Qg):Option Bool:=
 cond (Q3 .eql kind 10)
 (some (((f.Topic:List UInt8) == f.Topic)&&(((f.QoS:Int) == 0)&&(((f.NoLocal:Bool) == false)&&(((f.AsPublished:Bool) == false)&&(((f.Handling:Int) == 0)&&true))))))
 (cond (Q3 .lss f.QoS 0)
 (some false)
 (cond (Q3 .gtr f.QoS 2)
 (some false)
 (cond (Q3 .lss f.Handling 0)
 (some false)
 (cond (Q3 .gtr f.Handling 2)
 (some false)
 (cond (Q3 .eql version 4)
 (cond (!f.NoLocal)
 (cond (!f.AsPublished)
 (some (Q3 .eql f.Handling 0))
 (some false))
 (some false))
 ((Uw N f.Topic).bind fun v9=>
 cond (!f.NoLocal)
 (some true)
 (some (!v9.2.2))))))))
theorem Q0g {N} {version} {kind} {f} {r} (h:Yz N version kind f=some r):pU 159 [.int .i64 version,.int .i64 kind,.agg (Qg.cells f)] (.bool r):=by
 refine Q0 Zac ?_;unfold Yz at h;rw [cX] at h;refine iL h fun h=>?_;refine iL h fun h=>?_;refine iL h fun h=>?_;refine iL h fun h=>?_;refine iL h fun h=>?_;apply iU h<;>intro h
 ·refine iR h fun h=>?_;exact iB h
 refine cP h Q8e p1 fun v9 h=>?_;exact iB h
def Xf (N:Nat) (version:Int) (p:Q1):Nat→Int→Option Int
 | 0,_=>none
 | n+1,i70=>
  cond (Q3 .lss i70 ((Q6 (cI .i64) p.Codes).length:Int))
  ((idx p.Codes i70).bind fun y72=>
  (V5 N version p.Kind y72).bind fun v74=>
  cond (!v74)
  (some 2)
  (Xf N version p n (wrap .i64 (i70+1))))
  (some 0)
def Xd (N:Nat) (version:Int) (p:Q1):Nat→Int→Option Int
 | 0,_=>none
 | n+1,i45=>
  cond (Q3 .lss i45 ((Q6 Qg.cells p.Filters).length:Int))
  ((idx p.Filters i45).bind fun y47=>
  (Yj N y47.Topic).bind fun v49=>
  cond (!v49)
  (some 10)
  ((idx p.Filters i45).bind fun y52=>
  (Yz N version p.Kind y52).bind fun v54=>
  cond (!v54)
  (some 2)
  (Xd N version p n (wrap .i64 (i45+1)))))
  (Xf N version p N 0)
def Xl (N:Nat) (version:Int) (p:Q1):Nat→Int→Option Int
 | 0,_=>none
 | n+1,i128=>
  cond (Q3 .lss i128 ((Q6 (cI .i64) p.Codes).length:Int))
  ((idx p.Codes i128).bind fun y130=>
  (V5 N version p.Kind y130).bind fun v132=>
  cond (!v132)
  (some 2)
  (Xl N version p n (wrap .i64 (i128+1))))
  (some 0)
def Xb (N:Nat) (version:Int) (p:Q1):Nat→Int→Option Int
 | 0,_=>none
 | n+1,i103=>
  cond (Q3 .lss i103 ((Q6 Qg.cells p.Filters).length:Int))
  ((idx p.Filters i103).bind fun y105=>
  (Yj N y105.Topic).bind fun v107=>
  cond (!v107)
  (some 10)
  ((idx p.Filters i103).bind fun y110=>
  (Yz N version p.Kind y110).bind fun v112=>
  cond (!v112)
  (some 2)
  (Xb N version p n (wrap .i64 (i103+1)))))
  (Xl N version p N 0)
def Xg (N:Nat) (version:Int) (p:Q1):Nat→Int→Option Int
 | 0,_=>none
 | n+1,i188=>
  cond (Q3 .lss i188 ((Q6 (cI .i64) p.Codes).length:Int))
  ((idx p.Codes i188).bind fun y190=>
  (V5 N version p.Kind y190).bind fun v192=>
  cond (!v192)
  (some 2)
  (Xg N version p n (wrap .i64 (i188+1))))
  (some 0)
def Xc (N:Nat) (version:Int) (p:Q1):Nat→Int→Option Int
 | 0,_=>none
 | n+1,i163=>
  cond (Q3 .lss i163 ((Q6 Qg.cells p.Filters).length:Int))
  ((idx p.Filters i163).bind fun y165=>
  (Yj N y165.Topic).bind fun v167=>
  cond (!v167)
  (some 10)
  ((idx p.Filters i163).bind fun y170=>
  (Yz N version p.Kind y170).bind fun v172=>
  cond (!v172)
  (some 2)
  (Xc N version p n (wrap .i64 (i163+1)))))
  (Xg N version p N 0)
def Vw (N:Nat) (version:Int) (p:Q1):Option Int:=
 (Z8 N version).bind fun v1=>
 cond (!v1)
 (some 2)
 ((Q0w N p.Kind).bind fun v4=>
 cond (!v4)
 (some 2)
 ((Ga N version p).bind fun v7=>
 (Qi N p v7).bind fun v9=>
 cond (!v9)
 (some 2)
 (cond (Q3 .lss p.ID 1)
 (some 2)
 (cond (Q3 .gtr p.ID 65535)
 (some 2)
 (cond (Q3 .eql version 4)
 (cond (Q3 .gtr ((Q6 Qb.cells p.Props).length:Int) 0)
 (some 2)
 (cond (Q3 .eql (wrap .i64 (((Q6 Qg.cells p.Filters).length:Int)+((Q6 (cI .i64) p.Codes).length:Int))) 0)
 (cond (Q3 .eql p.Kind 11)
 ((Q5 N version p.Kind p.Props).bind fun v18=>
 cond (Q3 .neq v18 0)
 (some v18)
 (Xd N version p N 0))
 (some 2))
 ((Q5 N version p.Kind p.Props).bind fun v77=>
 cond (Q3 .neq v77 0)
 (some v77)
 (Xb N version p N 0))))
 (cond (Q3 .eql (wrap .i64 (((Q6 Qg.cells p.Filters).length:Int)+((Q6 (cI .i64) p.Codes).length:Int))) 0)
 (cond (Q3 .eql p.Kind 11)
 (some 2)
 (some 2))
 ((Q5 N version p.Kind p.Props).bind fun v137=>
 cond (Q3 .neq v137 0)
 (some v137)
 (Xc N version p N 0))))))))
theorem Q4f {N} {version} {p} {r} (h:Vw N version p=some r):pU 85 [.int .i64 version,.agg (Q1.cells p)] (.int .i64 r):=by
 refine Q0 k85 ?_;unfold Vw at h;rw [cX] at h;refine Qk ?_;refine cD h Y8 p1 fun v1 h=>?_;refine iL h fun h=>?_;refine cD h Q9h p1 fun v4 h=>?_;refine iL h fun h=>?_;refine cD h Qa9 (.cons (.p _) (.cons (Ap (Qo (f2_ (f1_ (.cons (.p _) p5))))) .nil)) fun v7 h=>?_;refine cD h Qs (.cons (Ap (Qo (f2_ (f1_ (.cons (.p _) p5))))) p1) fun v9 h=>?_;refine iL h fun h=>?_;refine iL h fun h=>?_;refine iL h fun h=>?_;refine ifO h (fun hc14 h=>?_) (fun hc14 h=>?_)
 ·refine iL h fun h=>?_;apply iU h<;>intro h
  ·refine iR h fun h=>?_;refine ifF (Z64 hc14) ?_;refine cP h Q7 p3 fun v18 h=>?_;refine iL h fun h=>?_;refine lpH (τ:=Int) (fun i45=>(iI version :: .any :: .any :: .ptr 0 0 :: .any :: .any::iI i45::a16 (a16 (a16 (a16 (a16 (a16 (a8 (a2 (.any :: [])))))))):List AV)) (fun n0 i45=>Xd N version p n0 i45) (0) h fun n0 i45 h=>?_
   first | rw [Xd] at h | simp only [Xd] at h
   rw [cX] at h;apply iU h<;>intro h
   ·refine xR h fun y47 h=>?_;refine cP h Jc p1 fun v49 h=>?_;refine iL h fun h=>?_;refine Qk ?_;refine xR h fun y52 h=>?_;refine cD h Q0g (f2_ (.cons (Ap p5) .nil)) fun v54 h=>?_;refine iL h fun h=>?_;show Exists _;exact ⟨(n0,(wrap .i64 (i45+1))),h,Lf _,(fun i=>i),Yn⟩
   refine lpH (τ:=Int) (fun i70=>(iI version :: .any :: .any :: .ptr 0 0::a2 (.any::iI i70::a16 (a16 (a16 (a16 (a16 (a16 (a8 (a2 ([]))))))))):List AV)) (fun n1 i70=>Xf N version p n1 i70) (0) h fun n1 i70 h=>?_
   first | rw [Xf] at h | simp only [Xf] at h
   rw [cX] at h;refine iR h fun h=>?_;refine Qk ?_;refine xR h fun y72 h=>?_;refine cD h Q23 p3 fun v74 h=>?_;refine iL h fun h=>?_;show Exists _;exact ⟨(n1,(wrap .i64 (i70+1))),h,Lf _,(fun i=>i),Yn⟩
  refine cP h Q7 p3 fun v77 h=>?_;refine iL h fun h=>?_;refine lpH (τ:=Int) (fun i103=>(iI version :: .any :: .any :: .ptr 0 0 :: .any :: .any::iI i103::a16 (a16 (a16 (a16 (a16 (a16 (a8 (a2 (.any :: [])))))))):List AV)) (fun n2 i103=>Xb N version p n2 i103) (0) h fun n2 i103 h=>?_
  first | rw [Xb] at h | simp only [Xb] at h
  rw [cX] at h;apply iU h<;>intro h
  ·refine xR h fun y105 h=>?_;refine cP h Jc p1 fun v107 h=>?_;refine iL h fun h=>?_;refine Qk ?_;refine xR h fun y110 h=>?_;refine cD h Q0g (f2_ (.cons (Ap p5) .nil)) fun v112 h=>?_;refine iL h fun h=>?_;show Exists _;exact ⟨(n2,(wrap .i64 (i103+1))),h,Lf _,(fun i=>i),Yn⟩
  refine lpH (τ:=Int) (fun i128=>(iI version :: .any :: .any :: .ptr 0 0::a2 (.any::iI i128::a16 (a16 (a16 (a16 (a16 (a16 (a8 (a2 ([]))))))))):List AV)) (fun n3 i128=>Xl N version p n3 i128) (0) h fun n3 i128 h=>?_
  first | rw [Xl] at h | simp only [Xl] at h
  rw [cX] at h;refine iR h fun h=>?_;refine Qk ?_;refine xR h fun y130 h=>?_;refine cD h Q23 p3 fun v132 h=>?_;refine iL h fun h=>?_;show Exists _;exact ⟨(n3,(wrap .i64 (i128+1))),h,Lf _,(fun i=>i),Yn⟩
 apply iU h<;>intro h
 ·refine iR h fun h=>?_;refine ifT (Z2y hc14) ?_;cases h;exact (.p _)
 refine cP h Q7 p3 fun v137 h=>?_;refine iL h fun h=>?_;refine lpH (τ:=Int) (fun i163=>(iI version :: .any :: .any :: .ptr 0 0 :: .any :: .any::iI i163::a16 (a16 (a16 (a16 (a16 (a16 (a8 (a2 (.any :: [])))))))):List AV)) (fun n4 i163=>Xc N version p n4 i163) (0) h fun n4 i163 h=>?_
 first | rw [Xc] at h | simp only [Xc] at h
 rw [cX] at h;apply iU h<;>intro h
 ·refine xR h fun y165 h=>?_;refine cP h Jc p1 fun v167 h=>?_;refine iL h fun h=>?_;refine Qk ?_;refine xR h fun y170 h=>?_;refine cD h Q0g (f2_ (.cons (Ap p5) .nil)) fun v172 h=>?_;refine iL h fun h=>?_;show Exists _;exact ⟨(n4,(wrap .i64 (i163+1))),h,Lf _,(fun i=>i),Yn⟩
 refine lpH (τ:=Int) (fun i188=>(iI version :: .any :: .any :: .ptr 0 0::a2 (.any::iI i188::a16 (a16 (a16 (a16 (a16 (a16 (a8 (a2 ([]))))))))):List AV)) (fun n5 i188=>Xg N version p n5 i188) (0) h fun n5 i188 h=>?_
 first | rw [Xg] at h | simp only [Xg] at h
 rw [cX] at h;refine iR h fun h=>?_;refine Qk ?_;refine xR h fun y190 h=>?_;refine cD h Q23 p3 fun v192 h=>?_;refine iL h fun h=>?_;show Exists _;exact ⟨(n5,(wrap .i64 (i188+1))),h,Lf _,(fun i=>i),Yn⟩
def Z3 (_N:Nat) (version:Int) (kind:Int):Option Bool:=
 cond (Q3 .eql kind 12)
 (some true)
 (cond (Q3 .eql kind 13)
 (some true)
 (cond (Q3 .eql kind 14)
 (some (Q3 .eql version 4))
 (some false)))
theorem Xe {N} {version} {kind} {r} (h:Z3 N version kind=some r):pU 152 [.int .i64 version,.int .i64 kind] (.bool r):=by
 refine Q0 Zn1 ?_;unfold Z3 at h;rw [cX] at h;refine iL h fun h=>?_;refine iL h fun h=>?_;exact iB h
def Vz (N:Nat) (version:Int) (p:Q1):Option Int:=
 (Z8 N version).bind fun v1=>
 cond (!v1)
 (some 2)
 (cond (Q3 .lss p.Kind 12)
 (some 2)
 (cond (Q3 .gtr p.Kind 15)
 (some 2)
 (cond (Q3 .eql p.Kind 15)
 (cond (Q3 .eql version 4)
 (some 8)
 ((Z3 N version p.Kind).bind fun v8=>
 cond (!v8)
 ((Qi N p (⟨p.Kind,false,false,0,0,[],[],false,0,[],false,[],false,[],false,(⟨[],[],0,false,[]⟩:Xn),false,p.Code,[],[],p.Props⟩:Q1)).bind fun v11=>
 cond (!v11)
 (some 2)
 ((Z3 N version p.Kind).bind fun v14=>
 cond (!v14)
 ((Z1 N p.Kind p.Code).bind fun v17=>
 cond (!v17)
 (some 2)
 ((Q5 N version p.Kind p.Props).bind fun v20=>
 some v20))
 ((Q5 N version p.Kind p.Props).bind fun v22=>
 some v22)))
 ((Qi N p (⟨p.Kind,false,false,0,0,[],[],false,0,[],false,[],false,[],false,(⟨[],[],0,false,[]⟩:Xn),false,0,[],[],[]⟩:Q1)).bind fun v24=>
 cond (!v24)
 (some 2)
 ((Z3 N version p.Kind).bind fun v27=>
 cond (!v27)
 ((Z1 N p.Kind p.Code).bind fun v30=>
 cond (!v30)
 (some 2)
 ((Q5 N version p.Kind p.Props).bind fun v33=>
 some v33))
 ((Q5 N version p.Kind p.Props).bind fun v35=>
 some v35)))))
 ((Z3 N version p.Kind).bind fun v37=>
 cond (!v37)
 ((Qi N p (⟨p.Kind,false,false,0,0,[],[],false,0,[],false,[],false,[],false,(⟨[],[],0,false,[]⟩:Xn),false,p.Code,[],[],p.Props⟩:Q1)).bind fun v40=>
 cond (!v40)
 (some 2)
 ((Z3 N version p.Kind).bind fun v43=>
 cond (!v43)
 ((Z1 N p.Kind p.Code).bind fun v46=>
 cond (!v46)
 (some 2)
 ((Q5 N version p.Kind p.Props).bind fun v49=>
 some v49))
 ((Q5 N version p.Kind p.Props).bind fun v51=>
 some v51)))
 ((Qi N p (⟨p.Kind,false,false,0,0,[],[],false,0,[],false,[],false,[],false,(⟨[],[],0,false,[]⟩:Xn),false,0,[],[],[]⟩:Q1)).bind fun v53=>
 cond (!v53)
 (some 2)
 ((Z3 N version p.Kind).bind fun v56=>
 cond (!v56)
 ((Z1 N p.Kind p.Code).bind fun v59=>
 cond (!v59)
 (some 2)
 ((Q5 N version p.Kind p.Props).bind fun v62=>
 some v62))
 ((Q5 N version p.Kind p.Props).bind fun v64=>
 some v64)))))))
theorem Q42 {N} {version} {p} {r} (h:Vz N version p=some r):pU 86 [.int .i64 version,.agg (Q1.cells p)] (.int .i64 r):=by
 refine Q0 k86 ?_;unfold Vz at h;rw [cX] at h;refine cP h Y8 p1 fun v1 h=>?_;refine iL h fun h=>?_;refine iL h fun h=>?_;refine iL h fun h=>?_;apply iU h<;>intro h
 ·refine iL h fun h=>?_;refine cP h Xe p2 fun v8 h=>?_;apply iU h<;>intro h
  ·refine Qk ?_;refine cP h Qs (.cons (Ap (Qo (f2_ (f1_ (.cons (.p _) p5))))) (.cons (Ap (Qo (f2_ (f1_ (.cons (.nil _) (f2_ (.cons (.nil _) (.cons (.nil _) p1)))))))) .nil)) fun v11 h=>?_;refine iL h fun h=>?_;refine cP h Xe p2 fun v14 h=>?_;apply iU h<;>intro h
   ·refine cP h Yi p2 fun v17 h=>?_;refine iL h fun h=>?_;refine cP h Q7 p3 fun v20 h=>?_;cases h;exact (.p _)
   refine cP h Q7 p3 fun v22 h=>?_;cases h;exact (.p _)
  refine cP h Qs (.cons (Ap (Qo (f2_ (f1_ (.cons (.p _) p5))))) (.cons (Ap (Qo (f2_ (f1_ (.cons (.nil _) (f2_ (.cons (.nil _) (.cons (.nil _) (.cons (.nil _) .nil))))))))) .nil)) fun v24 h=>?_;refine iL h fun h=>?_;refine cP h Xe p2 fun v27 h=>?_;apply iU h<;>intro h
  ·refine cP h Yi p2 fun v30 h=>?_;refine iL h fun h=>?_;refine cP h Q7 p3 fun v33 h=>?_;cases h;exact (.p _)
  refine cP h Q7 p3 fun v35 h=>?_;cases h;exact (.p _)
 refine cP h Xe p2 fun v37 h=>?_;apply iU h<;>intro h
 ·refine Qk ?_;refine cP h Qs (.cons (Ap (Qo (f2_ (f1_ (.cons (.p _) p5))))) (.cons (Ap (Qo (f2_ (f1_ (.cons (.nil _) (f2_ (.cons (.nil _) (.cons (.nil _) p1)))))))) .nil)) fun v40 h=>?_;refine iL h fun h=>?_;refine cP h Xe p2 fun v43 h=>?_;apply iU h<;>intro h
  ·refine cP h Yi p2 fun v46 h=>?_;refine iL h fun h=>?_;refine cP h Q7 p3 fun v49 h=>?_;cases h;exact (.p _)
  refine cP h Q7 p3 fun v51 h=>?_;cases h;exact (.p _)
 refine cP h Qs (.cons (Ap (Qo (f2_ (f1_ (.cons (.p _) p5))))) (.cons (Ap (Qo (f2_ (f1_ (.cons (.nil _) (f2_ (.cons (.nil _) (.cons (.nil _) (.cons (.nil _) .nil))))))))) .nil)) fun v53 h=>?_;refine iL h fun h=>?_;refine cP h Xe p2 fun v56 h=>?_;apply iU h<;>intro h
 ·refine cP h Yi p2 fun v59 h=>?_;refine iL h fun h=>?_;refine cP h Q7 p3 fun v62 h=>?_;cases h;exact (.p _)
 refine cP h Q7 p3 fun v64 h=>?_;cases h;exact (.p _)
def Wp (N:Nat) (version:Int) (p:Q1):Option Int:=
 cond (Q3 .leq p.Kind 2)
 ((U1 N version p).bind fun v2=>
 some v2)
 (cond (Q3 .eql p.Kind 3)
 ((U0 N version p).bind fun v5=>
 some v5)
 (cond (Q3 .leq p.Kind 7)
 ((U2 N version p).bind fun v8=>
 some v8)
 (cond (Q3 .leq p.Kind 11)
 ((Vw N version p).bind fun v11=>
 some v11)
 ((Vz N version p).bind fun v13=>
 some v13))))
theorem Q4a {N} {version} {p} {r} (h:Wp N version p=some r):pU 50 [.int .i64 version,.agg (Q1.cells p)] (.int .i64 r):=by
 refine Q0 k50 ?_;unfold Wp at h;rw [cX] at h;apply iU h<;>intro h
 ·refine cP h Q45 (.cons (.p _) (.cons (Ap (Qo (f2_ (f1_ (.cons (.p _) p5))))) .nil)) fun v2 h=>?_;cases h;exact (.p _)
 apply iU h<;>intro h
 ·refine cP h Q4h (.cons (.p _) (.cons (Ap (Qo (f2_ (f1_ (.cons (.p _) p5))))) .nil)) fun v5 h=>?_;cases h;exact (.p _)
 apply iU h<;>intro h
 ·refine cP h Q4d (.cons (.p _) (.cons (Ap (Qo (f2_ (f1_ (.cons (.p _) p5))))) .nil)) fun v8 h=>?_;cases h;exact (.p _)
 apply iU h<;>intro h
 ·refine cP h Q4f (.cons (.p _) (.cons (Ap (Qo (f2_ (f1_ (.cons (.p _) p5))))) .nil)) fun v11 h=>?_;cases h;exact (.p _)
 refine cP h Q42 (.cons (.p _) (.cons (Ap (Qo (f2_ (f1_ (.cons (.p _) p5))))) .nil)) fun v13 h=>?_;cases h;exact (.p _)
def X5 (_N:Nat) (is:Bool) (n_1:Int):Option Int:=
 cond is
 (some n_1)
 (some 0)
theorem Ve {N} {is} {n_1} {r} (h:X5 N is n_1=some r):pU 162 [.bool is,.int .i64 n_1] (.int .i64 r):=by
 refine Q0 Zeq ?_;unfold X5 at h;exact iB h
def Jo (N:Nat) (kind:Int) (l:List Qb):Option ((List UInt8)×Int):=
 (X2 N kind l).bind fun v1=>
 cond (Q3 .neq v1 0)
 (some ([],v1))
 ((Ul N l).bind fun v4=>
 (Wo N (v4.length:Int)).bind fun v6=>
 cond (Nat.ble (v6.1.length+v4.length) 4611686018427387904) (some ((v6.1++v4),0)) none)
theorem Q8z {N} {kind} {l} {r} (h:Jo N kind l=some r):pU 232 [.int .i64 kind,.slice 4 (Q6 Qb.cells l)] (.tuple [.str r.1,.int .i64 r.2]):=by
 refine Q0 Zhb ?_;unfold Jo at h;rw [cX] at h;refine cP h Jy p2 fun v1 h=>?_;refine iL2 h fun h=>?_;refine cP h Q5h p1 fun v4 h=>?_;refine cP h Q1j p1 fun v6 h=>?_;refine kU h fun h=>?_;obtain rfl:=Qm h;exact u2
def Z0 (N:Nat) (version:Int) (kind:Int) (l:List Qb):Option (List UInt8):=
 cond (Q3 .eql version 4)
 (some [])
 ((Jo N kind l).bind fun v2=>
 some v2.1)
theorem X4 {N} {version} {kind} {l} {r} (h:Z0 N version kind l=some r):pU 163 [.int .i64 version,.int .i64 kind,.slice 4 (Q6 Qb.cells l)] (.str r):=by
 refine Q0 Zer ?_;unfold Z0 at h;rw [cX] at h;refine iL h fun h=>?_;refine cP h Q8z p2 fun v2 h=>?_;cases h;exact (.p _)
def Qz (N:Nat) (s_0:List UInt8):Option (List UInt8):=
 (W7 N s_0).bind fun v1=>
 some v1.1
theorem Zv {N} {s_0} {r} (h:Qz N s_0=some r):pU 164 [.str s_0] (.str r):=by
 refine Q0 Zgu ?_;unfold Qz at h;refine cP h Q14 p1 fun v1 h=>?_;cases h;exact (.p _)
def Jk (N:Nat) (p:Q1):Option Int:=
 cond (Q3 .neq p.Kind 1)
 (some 0)
 ((X5 N p.HasUser 128).bind fun v2=>
 (X5 N p.HasPass 64).bind fun v4=>
 (X5 N p.Will.Retain 32).bind fun v6=>
 (X5 N p.HasWill 4).bind fun v8=>
 (X5 N p.Clean 2).bind fun v10=>
 some (wrap .i64 ((wrap .i64 ((wrap .i64 ((wrap .i64 ((wrap .i64 (v2+v4))+v6))+(wrap .i64 ((((wrap .i64 (((p.Will.QoS:Int).tmod 4)+4)):Int).tmod 4) * 8))))+v8))+v10)))
theorem Q9b {N} {p} {r} (h:Jk N p=some r):pU 165 [.agg (Q1.cells p)] (.int .i64 r):=by
 refine Q0 Zb9 ?_;unfold Jk at h;rw [cX] at h;refine iL h fun h=>?_;refine Qk ?_;refine cD h Ve p2 fun v2 h=>?_;refine cD h Ve p2 fun v4 h=>?_;refine cD h Ve p2 fun v6 h=>?_;refine cD h Ve p2 fun v8 h=>?_;refine cD h Ve p2 fun v10 h=>?_;cases h;exact (.p _)
def Gf (N:Nat) (version:Int) (p:Q1):Option ((List UInt8)×Int):=
 (U1 N version p).bind fun v1=>
 cond (Q3 .neq v1 0)
 (some ([],v1))
 (cond (Q3 .eql p.Kind 2)
 ((X5 N p.Session 1).bind fun v5=>
 (Z0 N version p.Kind p.Props).bind fun v7=>
 cond (Nat.ble ([UInt8.ofNat (wrap .u8 v5).toNat,UInt8.ofNat (wrap .u8 p.Code).toNat].length+v7.length) 4611686018427387904) (some (([UInt8.ofNat (wrap .u8 v5).toNat,UInt8.ofNat (wrap .u8 p.Code).toNat]++v7),0)) none)
 ((Qz N [77,81,84,84]).bind fun v10=>
 (Jk N p).bind fun v12=>
 cond (Nat.ble (v10.length + [UInt8.ofNat (wrap .u8 version).toNat,UInt8.ofNat (wrap .u8 v12).toNat].length) 4611686018427387904) ((Zl N (wrap .u64 p.KeepAlive) 2).bind fun v15=>
 cond (Nat.ble ((v10 ++ [UInt8.ofNat (wrap .u8 version).toNat,UInt8.ofNat (wrap .u8 v12).toNat]).length+v15.length) 4611686018427387904) ((Z0 N version p.Kind p.Props).bind fun v18=>
 cond (Nat.ble (((v10 ++ [UInt8.ofNat (wrap .u8 version).toNat,UInt8.ofNat (wrap .u8 v12).toNat])++v15).length+v18.length) 4611686018427387904) ((Qz N p.Client).bind fun v21=>
 cond (Nat.ble ((((v10 ++ [UInt8.ofNat (wrap .u8 version).toNat,UInt8.ofNat (wrap .u8 v12).toNat])++v15)++v18).length+v21.length) 4611686018427387904) (cond p.HasWill
 ((Z0 N version 16 p.Will.Props).bind fun v25=>
 cond (Nat.ble (((((v10 ++ [UInt8.ofNat (wrap .u8 version).toNat,UInt8.ofNat (wrap .u8 v12).toNat])++v15)++v18)++v21).length+v25.length) 4611686018427387904) ((Qz N p.Will.Topic).bind fun v28=>
 cond (Nat.ble ((((((v10 ++ [UInt8.ofNat (wrap .u8 version).toNat,UInt8.ofNat (wrap .u8 v12).toNat])++v15)++v18)++v21)++v25).length+v28.length) 4611686018427387904) ((Qz N p.Will.Payload).bind fun v31=>
 cond (Nat.ble (((((((v10 ++ [UInt8.ofNat (wrap .u8 version).toNat,UInt8.ofNat (wrap .u8 v12).toNat])++v15)++v18)++v21)++v25)++v28).length+v31.length) 4611686018427387904) (cond p.HasUser
 ((Qz N p.User).bind fun v35=>
 cond (Nat.ble ((((((((v10 ++ [UInt8.ofNat (wrap .u8 version).toNat,UInt8.ofNat (wrap .u8 v12).toNat])++v15)++v18)++v21)++v25)++v28)++v31).length+v35.length) 4611686018427387904) (cond p.HasPass
 ((Qz N p.Pass).bind fun v39=>
 cond (Nat.ble (((((((((v10 ++ [UInt8.ofNat (wrap .u8 version).toNat,UInt8.ofNat (wrap .u8 v12).toNat])++v15)++v18)++v21)++v25)++v28)++v31)++v35).length+v39.length) 4611686018427387904) (some ((((((((((v10 ++ [UInt8.ofNat (wrap .u8 version).toNat,UInt8.ofNat (wrap .u8 v12).toNat])++v15)++v18)++v21)++v25)++v28)++v31)++v35)++v39),0)) none)
 (some (((((((((v10 ++ [UInt8.ofNat (wrap .u8 version).toNat,UInt8.ofNat (wrap .u8 v12).toNat])++v15)++v18)++v21)++v25)++v28)++v31)++v35),0))) none)
 (cond p.HasPass
 ((Qz N p.Pass).bind fun v43=>
 cond (Nat.ble ((((((((v10 ++ [UInt8.ofNat (wrap .u8 version).toNat,UInt8.ofNat (wrap .u8 v12).toNat])++v15)++v18)++v21)++v25)++v28)++v31).length+v43.length) 4611686018427387904) (some (((((((((v10 ++ [UInt8.ofNat (wrap .u8 version).toNat,UInt8.ofNat (wrap .u8 v12).toNat])++v15)++v18)++v21)++v25)++v28)++v31)++v43),0)) none)
 (some ((((((((v10 ++ [UInt8.ofNat (wrap .u8 version).toNat,UInt8.ofNat (wrap .u8 v12).toNat])++v15)++v18)++v21)++v25)++v28)++v31),0)))) none) none) none)
 (cond p.HasUser
 ((Qz N p.User).bind fun v47=>
 cond (Nat.ble (((((v10 ++ [UInt8.ofNat (wrap .u8 version).toNat,UInt8.ofNat (wrap .u8 v12).toNat])++v15)++v18)++v21).length+v47.length) 4611686018427387904) (cond p.HasPass
 ((Qz N p.Pass).bind fun v51=>
 cond (Nat.ble ((((((v10 ++ [UInt8.ofNat (wrap .u8 version).toNat,UInt8.ofNat (wrap .u8 v12).toNat])++v15)++v18)++v21)++v47).length+v51.length) 4611686018427387904) (some (((((((v10 ++ [UInt8.ofNat (wrap .u8 version).toNat,UInt8.ofNat (wrap .u8 v12).toNat])++v15)++v18)++v21)++v47)++v51),0)) none)
 (some ((((((v10 ++ [UInt8.ofNat (wrap .u8 version).toNat,UInt8.ofNat (wrap .u8 v12).toNat])++v15)++v18)++v21)++v47),0))) none)
 (cond p.HasPass
 ((Qz N p.Pass).bind fun v55=>
 cond (Nat.ble (((((v10 ++ [UInt8.ofNat (wrap .u8 version).toNat,UInt8.ofNat (wrap .u8 v12).toNat])++v15)++v18)++v21).length+v55.length) 4611686018427387904) (some ((((((v10 ++ [UInt8.ofNat (wrap .u8 version).toNat,UInt8.ofNat (wrap .u8 v12).toNat])++v15)++v18)++v21)++v55),0)) none)
 (some (((((v10 ++ [UInt8.ofNat (wrap .u8 version).toNat,UInt8.ofNat (wrap .u8 v12).toNat])++v15)++v18)++v21),0))))) none) none) none) none))
theorem Qa1 {N} {version} {p} {r} (h:Gf N version p=some r):pU 87 [.int .i64 version,.agg (Q1.cells p)] (.tuple [.str r.1,.int .i64 r.2]):=by
 refine Q0 k87 ?_;unfold Gf at h;rw [cX] at h;refine cP h Q45 (.cons (.p _) (.cons (Ap (Qo (f2_ (f1_ (.cons (.p _) p5))))) .nil)) fun v1 h=>?_;refine iL2 h fun h=>?_;apply iU h<;>intro h
 ·refine Qk ?_;refine cD h Ve p2 fun v5 h=>?_;refine cD h X4 p3 fun v7 h=>?_;refine kU h fun h=>?_;obtain rfl:=Qm h;exact u2
 refine Qk ?_;refine cD h Zv p1 fun v10 h=>?_;refine cD h Q9b (.cons (Ap (Qo (f2_ (f1_ (.cons (.p _) p5))))) .nil) fun v12 h=>?_;refine kU h fun h=>?_;refine cD h Y5 p2 fun v15 h=>?_;refine kU h fun h=>?_;refine cD h X4 p3 fun v18 h=>?_;refine kU h fun h=>?_;refine cD h Zv p1 fun v21 h=>?_;refine kU h fun h=>?_;apply iU h<;>intro h
 ·refine Qk ?_;refine cD h X4 p3 fun v25 h=>?_;refine kU h fun h=>?_;refine cD h Zv p1 fun v28 h=>?_;refine kU h fun h=>?_;refine cD h Zv p1 fun v31 h=>?_;refine kU h fun h=>?_;apply iU h<;>intro h
  ·refine cP h Zv p1 fun v35 h=>?_;refine kU h fun h=>?_;refine iR2 h fun h=>?_;refine cP h Zv p1 fun v39 h=>?_;refine kU h fun h=>?_;obtain rfl:=Qm h;exact u2
  refine iR2 h fun h=>?_;refine cP h Zv p1 fun v43 h=>?_;refine kU h fun h=>?_;obtain rfl:=Qm h;exact u2
 apply iU h<;>intro h
 ·refine cP h Zv p1 fun v47 h=>?_;refine kU h fun h=>?_;refine iR2 h fun h=>?_;refine cP h Zv p1 fun v51 h=>?_;refine kU h fun h=>?_;obtain rfl:=Qm h;exact u2
 refine iR2 h fun h=>?_;refine cP h Zv p1 fun v55 h=>?_;refine kU h fun h=>?_;obtain rfl:=Qm h;exact u2
def W3 (N:Nat) (s_0:List UInt8):Option ((List UInt8)×Int):=
 (Y1 N s_0).bind fun v1=>
 cond (!v1)
 (some ([],6))
 ((Zl N (wrap .u64 (s_0.length:Int)) 2).bind fun v4=>
 cond (Nat.ble (v4.length+s_0.length) 4611686018427387904) (some ((v4++s_0),0)) none)
theorem Q57 {N} {s_0} {r} (h:W3 N s_0=some r):pU 166 [.str s_0] (.tuple [.str r.1,.int .i64 r.2]):=by
 refine Q0 Zp6 ?_;unfold W3 at h;refine cP h Yo p1 fun v1 h=>?_;refine iL2 h fun h=>?_;refine cP h Y5 p2 fun v4 h=>?_;refine kU h fun h=>?_;obtain rfl:=Qm h;exact u2
def Gm (N:Nat) (version:Int) (p:Q1):Option ((List UInt8)×Int):=
 (U0 N version p).bind fun v1=>
 cond (Q3 .neq v1 0)
 (some ([],v1))
 ((W3 N p.Topic).bind fun v4=>
 cond (Q3 .gtr p.QoS 0)
 ((Zl N (wrap .u64 p.ID) 2).bind fun v7=>
 cond (Nat.ble (v4.1.length+v7.length) 4611686018427387904) ((Z0 N version 3 p.Props).bind fun v10=>
 cond (Nat.ble ((v4.1++v7).length+v10.length) 4611686018427387904) (cond (Nat.ble (((v4.1++v7)++v10).length+p.Payload.length) 4611686018427387904) (some ((((v4.1++v7)++v10)++p.Payload),0)) none) none) none)
 ((Z0 N version 3 p.Props).bind fun v14=>
 cond (Nat.ble (v4.1.length+v14.length) 4611686018427387904) (cond (Nat.ble ((v4.1++v14).length+p.Payload.length) 4611686018427387904) (some (((v4.1++v14)++p.Payload),0)) none) none))
theorem Qae {N} {version} {p} {r} (h:Gm N version p=some r):pU 88 [.int .i64 version,.agg (Q1.cells p)] (.tuple [.str r.1,.int .i64 r.2]):=by
 refine Q0 k88 ?_;unfold Gm at h;rw [cX] at h;refine cP h Q4h (.cons (.p _) (.cons (Ap (Qo (f2_ (f1_ (.cons (.p _) p5))))) .nil)) fun v1 h=>?_;refine iL2 h fun h=>?_;refine cP h Q57 p1 fun v4 h=>?_;apply iU h<;>intro h
 ·refine cP h Y5 p2 fun v7 h=>?_;refine kU h fun h=>?_;refine Qk ?_;refine cD h X4 p3 fun v10 h=>?_;refine kU h fun h=>?_;refine kU h fun h=>?_;obtain rfl:=Qm h;exact u2
 refine Qk ?_;refine cD h X4 p3 fun v14 h=>?_;refine kU h fun h=>?_;refine kU h fun h=>?_;obtain rfl:=Qm h;exact u2
def Vk (N:Nat) (version:Int) (kind:Int) (code:Int) (l:List Qb):Option (List UInt8):=
 cond (Q3 .eql version 5)
 (cond (Q3 .neq code 0)
 (cond (Q3 .gtr ((Q6 Qb.cells l).length:Int) 0)
 ((Z0 N version kind l).bind fun v4=>
 cond (Nat.ble ([UInt8.ofNat (wrap .u8 code).toNat].length+v4.length) 4611686018427387904) (some ([UInt8.ofNat (wrap .u8 code).toNat]++v4)) none)
 (some [UInt8.ofNat (wrap .u8 code).toNat]))
 (cond (Q3 .gtr ((Q6 Qb.cells l).length:Int) 0)
 ((Z0 N version kind l).bind fun v8=>
 cond (Nat.ble ([UInt8.ofNat (wrap .u8 code).toNat].length+v8.length) 4611686018427387904) (some ([UInt8.ofNat (wrap .u8 code).toNat]++v8)) none)
 (some [])))
 (some [])
theorem Q4k {N} {version} {kind} {code} {l} {r} (h:Vk N version kind code l=some r):pU 167 [.int .i64 version,.int .i64 kind,.int .i64 code,.slice 4 (Q6 Qb.cells l)] (.str r):=by
 refine Q0 Ziu ?_;unfold Vk at h;rw [cX] at h;refine iR h fun h=>?_;apply iU h<;>intro h
 ·refine iR h fun h=>?_;refine cP h X4 p3 fun v4 h=>?_;refine kU h fun h=>?_;cases h;exact (.p _)
 refine oR h fun hc7 h=>?_;refine ifT hc7 ?_;refine cP h X4 p3 fun v8 h=>?_;refine kU h fun h=>?_;cases h;exact (.p _)
def Gh (N:Nat) (version:Int) (p:Q1):Option ((List UInt8)×Int):=
 (U2 N version p).bind fun v1=>
 cond (Q3 .neq v1 0)
 (some ([],v1))
 ((Zl N (wrap .u64 p.ID) 2).bind fun v4=>
 (Vk N version p.Kind p.Code p.Props).bind fun v6=>
 cond (Nat.ble (v4.length+v6.length) 4611686018427387904) (some ((v4++v6),0)) none)
theorem Qam {N} {version} {p} {r} (h:Gh N version p=some r):pU 89 [.int .i64 version,.agg (Q1.cells p)] (.tuple [.str r.1,.int .i64 r.2]):=by
 refine Q0 k89 ?_;unfold Gh at h;rw [cX] at h;refine cP h Q4d (.cons (.p _) (.cons (Ap (Qo (f2_ (f1_ (.cons (.p _) p5))))) .nil)) fun v1 h=>?_;refine iL2 h fun h=>?_;refine Qk ?_;refine cD h Y5 p2 fun v4 h=>?_;refine cD h Q4k p4 fun v6 h=>?_;refine kU h fun h=>?_;obtain rfl:=Qm h;exact u2
def Gb (_N:Nat) (n_0:Int):Option Int:=
 some (((wrap .i64 (((n_0:Int).tmod 4)+4)):Int).tmod 4)
theorem Q54 {N} {n_0} {r} (h:Gb N n_0=some r):pU 234 [.int .i64 n_0] (.int .i64 r):=by
 refine Q0 Zk0 ?_;unfold Gb at h;cases h;exact (.p _)
def U8 (N:Nat) (f:Qg):Option Int:=
 (Gb N f.QoS).bind fun v1=>
 (Gb N f.Handling).bind fun v3=>
 cond f.NoLocal
 (cond f.AsPublished
 (some (wrap .i64 ((wrap .i64 ((wrap .i64 (v1+(wrap .i64 (16 * v3))))+4))+8)))
 (some (wrap .i64 ((wrap .i64 (v1+(wrap .i64 (16 * v3))))+4))))
 (cond f.AsPublished
 (some (wrap .i64 ((wrap .i64 (v1+(wrap .i64 (16 * v3))))+8)))
 (some (wrap .i64 (v1+(wrap .i64 (16 * v3))))))
theorem Q7u {N} {f} {r} (h:U8 N f=some r):pU 168 [.agg (Qg.cells f)] (.int .i64 r):=by
 refine Q0 Zjl ?_;unfold U8 at h;refine Qk ?_;refine cD h Q54 p1 fun v1 h=>?_;refine cD h Q54 p1 fun v3 h=>?_;apply iU h<;>intro h
 ·exact iB h
 exact iB h
def X3 (N:Nat) (p:Q1):Nat→(List UInt8)→Int→Option ((List UInt8)×Int)
 | 0,_,_=>none
 | n+1,out59,i60=>
  cond (Q3 .lss i60 ((Q6 (cI .i64) p.Codes).length:Int))
  ((idx p.Codes i60).bind fun y62=>
  cond (Nat.ble (out59.length + [UInt8.ofNat (wrap .u8 y62).toNat].length) 4611686018427387904) (X3 N p n (out59 ++ [UInt8.ofNat (wrap .u8 y62).toNat]) (wrap .i64 (i60+1))) none)
  (some (out59,0))
def Zx (N:Nat) (p:Q1):Nat→(List UInt8)→Int→Option ((List UInt8)×Int)
 | 0,_,_=>none
 | n+1,out35,i36=>
  cond (Q3 .lss i36 ((Q6 Qg.cells p.Filters).length:Int))
  ((idx p.Filters i36).bind fun y38=>
  (W3 N y38.Topic).bind fun v40=>
  cond (Nat.ble (out35.length+v40.1.length) 4611686018427387904) (cond (Q3 .eql p.Kind 8)
  ((idx p.Filters i36).bind fun y44=>
  (U8 N y44).bind fun v46=>
  cond (Nat.ble ((out35++v40.1).length + [UInt8.ofNat (wrap .u8 v46).toNat].length) 4611686018427387904) (Zx N p n ((out35++v40.1) ++ [UInt8.ofNat (wrap .u8 v46).toNat]) (wrap .i64 (i36+1))) none)
  (Zx N p n (out35++v40.1) (wrap .i64 (i36+1)))) none)
  (X3 N p N out35 0)
def Gd (N:Nat) (version:Int) (p:Q1):Option ((List UInt8)×Int):=
 (Vw N version p).bind fun v1=>
 cond (Q3 .neq v1 0)
 (some ([],v1))
 ((Zl N (wrap .u64 p.ID) 2).bind fun v4=>
 (Z0 N version p.Kind p.Props).bind fun v6=>
 cond (Nat.ble (v4.length+v6.length) 4611686018427387904) (Zx N p N (v4++v6) 0) none)
theorem Qad {N} {version} {p} {r} (h:Gd N version p=some r):pU 90 [.int .i64 version,.agg (Q1.cells p)] (.tuple [.str r.1,.int .i64 r.2]):=by
 refine Q0 k90 ?_;unfold Gd at h;rw [cX] at h;refine cP h Q4f (.cons (.p _) (.cons (Ap (Qo (f2_ (f1_ (.cons (.p _) p5))))) .nil)) fun v1 h=>?_;refine iL2 h fun h=>?_;refine Qk ?_;refine cD h Y5 p2 fun v4 h=>?_;refine cD h X4 p3 fun v6 h=>?_;refine kU h fun h=>?_;refine lpH (τ:=(List UInt8)×Int) (fun ⟨out35,i36⟩=>(a2 (.any :: .ptr 0 0::a2 (.any::iS out35::iI i36::a16 (a16 (a16 (a16 (a8 ([]))))))):List AV)) (fun n0 ⟨out35,i36⟩=>Zx N p n0 out35 i36) ((v4++v6),0) h fun n0 ⟨out35,i36⟩ h=>?_
 first | rw [Zx] at h | simp only [Zx] at h
 rw [cX] at h;apply iU h<;>intro h
 ·refine xR h fun y38 h=>?_;refine cP h Q57 p1 fun v40 h=>?_;refine kU h fun h=>?_;apply iU h<;>intro h
  ·refine xR h fun y44 h=>?_;refine cP h Q7u (.cons (Ap p5) .nil) fun v46 h=>?_;refine kU h fun h=>?_;show Exists _;exact ⟨(n0,((out35++v40.1) ++ [UInt8.ofNat (wrap .u8 v46).toNat]),(wrap .i64 (i36+1))),h,Lf _,(fun i=>i),Yn⟩
  show Exists _;exact ⟨(n0,(out35++v40.1),(wrap .i64 (i36+1))),h,Lf _,(fun i=>i),Yn⟩
 refine lpH (τ:=(List UInt8)×Int) (fun ⟨out59,i60⟩=>(a2 (.any :: .ptr 0 0::a2 (.any::iS out59::a2 (.any::iI i60::a16 (a16 (a16 (a16 (a4 (.any :: [])))))))):List AV)) (fun n1 ⟨out59,i60⟩=>X3 N p n1 out59 i60) (out35,0) h fun n1 ⟨out59,i60⟩ h=>?_
 first | rw [X3] at h | simp only [X3] at h
 rw [cX] at h;refine iR2 h fun h=>?_;refine xR h fun y62 h=>?_;refine kU h fun h=>?_;show Exists _;exact ⟨(n1,(out59 ++ [UInt8.ofNat (wrap .u8 y62).toNat]),(wrap .i64 (i60+1))),h,Lf _,(fun i=>i),Yn⟩
def Q1d (N:Nat) (code:Int) (l:List Qb) (kind:Int):Option (List UInt8):=
 cond (Q3 .lss code 0)
 (some [])
 (cond (Q3 .gtr code 255)
 (some [])
 ((X2 N kind l).bind fun v3=>
 cond (Q3 .neq v3 0)
 (some [])
 ((Vk N 5 kind code l).bind fun v6=>
 some v6)))
theorem Q9p {N} {code} {l} {kind} {r} (h:Q1d N code l kind=some r):pU 169 [.int .i64 code,.slice 4 (Q6 Qb.cells l),.int .i64 kind] (.str r):=by
 refine Q0 Zpj ?_;unfold Q1d at h;rw [cX] at h;refine iL h fun h=>?_;refine iL h fun h=>?_;refine cP h Jy p2 fun v3 h=>?_;refine iL h fun h=>?_;refine cP h Q4k p4 fun v6 h=>?_;cases h;exact (.p _)
def Gc (N:Nat) (version:Int) (p:Q1):Option ((List UInt8)×Int):=
 (Vz N version p).bind fun v1=>
 cond (Q3 .neq v1 0)
 (some ([],v1))
 ((Z3 N version p.Kind).bind fun v4=>
 cond v4
 (some ([],v1))
 ((Q1d N p.Code p.Props p.Kind).bind fun v7=>
 some (v7,0)))
theorem Qaf {N} {version} {p} {r} (h:Gc N version p=some r):pU 91 [.int .i64 version,.agg (Q1.cells p)] (.tuple [.str r.1,.int .i64 r.2]):=by
 refine Q0 k91 ?_;unfold Gc at h;rw [cX] at h;refine cP h Q42 (.cons (.p _) (.cons (Ap (Qo (f2_ (f1_ (.cons (.p _) p5))))) .nil)) fun v1 h=>?_;refine iL2 h fun h=>?_;refine cP h Xe p2 fun v4 h=>?_;refine iL2 h fun h=>?_;refine cP h Q9p p3 fun v7 h=>?_;obtain rfl:=Qm h;exact u2
def V6 (N:Nat) (version:Int) (p:Q1):Option (List UInt8):=
 cond (Q3 .leq p.Kind 2)
 ((Gf N version p).bind fun v2=>
 some v2.1)
 (cond (Q3 .eql p.Kind 3)
 ((Gm N version p).bind fun v5=>
 some v5.1)
 (cond (Q3 .leq p.Kind 7)
 ((Gh N version p).bind fun v8=>
 some v8.1)
 (cond (Q3 .leq p.Kind 11)
 ((Gd N version p).bind fun v11=>
 some v11.1)
 ((Gc N version p).bind fun v13=>
 some v13.1))))
theorem Q5g {N} {version} {p} {r} (h:V6 N version p=some r):pU 51 [.int .i64 version,.agg (Q1.cells p)] (.str r):=by
 refine Q0 k51 ?_;unfold V6 at h;rw [cX] at h;apply iU h<;>intro h
 ·refine cP h Qa1 (.cons (.p _) (.cons (Ap (Qo (f2_ (f1_ (.cons (.p _) p5))))) .nil)) fun v2 h=>?_;cases h;exact (.p _)
 apply iU h<;>intro h
 ·refine cP h Qae (.cons (.p _) (.cons (Ap (Qo (f2_ (f1_ (.cons (.p _) p5))))) .nil)) fun v5 h=>?_;cases h;exact (.p _)
 apply iU h<;>intro h
 ·refine cP h Qam (.cons (.p _) (.cons (Ap (Qo (f2_ (f1_ (.cons (.p _) p5))))) .nil)) fun v8 h=>?_;cases h;exact (.p _)
 apply iU h<;>intro h
 ·refine cP h Qad (.cons (.p _) (.cons (Ap (Qo (f2_ (f1_ (.cons (.p _) p5))))) .nil)) fun v11 h=>?_;cases h;exact (.p _)
 refine cP h Qaf (.cons (.p _) (.cons (Ap (Qo (f2_ (f1_ (.cons (.p _) p5))))) .nil)) fun v13 h=>?_;cases h;exact (.p _)
def Vp (N:Nat) (version:Int) (p:Q1):Option ((List UInt8)×Int):=
 (Z8 N version).bind fun v1=>
 cond (!v1)
 (some ([],2))
 (cond (Q3 .lss p.Kind 1)
 (some ([],8))
 (cond (Q3 .gtr p.Kind 15)
 (some ([],8))
 (cond (Q3 .eql p.Kind 15)
 (cond (Q3 .eql version 4)
 (some ([],8))
 ((Wp N version p).bind fun v8=>
 cond (Q3 .neq v8 0)
 (some ([],v8))
 ((V6 N version p).bind fun v11=>
 cond (Q3 .gtr (v11.length:Int) 268435455)
 (some ([],4))
 (some (v11,0)))))
 ((Wp N version p).bind fun v14=>
 cond (Q3 .neq v14 0)
 (some ([],v14))
 ((V6 N version p).bind fun v17=>
 cond (Q3 .gtr (v17.length:Int) 268435455)
 (some ([],4))
 (some (v17,0)))))))
theorem Q43 {N} {version} {p} {r} (h:Vp N version p=some r):pU 22 [.int .i64 version,.agg (Q1.cells p)] (.tuple [.str r.1,.int .i64 r.2]):=by
 refine Q0 k22 ?_;unfold Vp at h;rw [cX] at h;refine cP h Y8 p1 fun v1 h=>?_;refine iL2 h fun h=>?_;refine iL2 h fun h=>?_;refine iL2 h fun h=>?_;apply iU h<;>intro h
 ·refine iL2 h fun h=>?_;refine cP h Q4a (.cons (.p _) (.cons (Ap (Qo (f2_ (f1_ (.cons (.p _) p5))))) .nil)) fun v8 h=>?_;refine iL2 h fun h=>?_;refine cP h Q5g (.cons (.p _) (.cons (Ap (Qo (f2_ (f1_ (.cons (.p _) p5))))) .nil)) fun v11 h=>?_;exact iB2 h
 refine cP h Q4a (.cons (.p _) (.cons (Ap (Qo (f2_ (f1_ (.cons (.p _) p5))))) .nil)) fun v14 h=>?_;refine iL2 h fun h=>?_;refine cP h Q5g (.cons (.p _) (.cons (Ap (Qo (f2_ (f1_ (.cons (.p _) p5))))) .nil)) fun v17 h=>?_;exact iB2 h
def Vu (N:Nat) (version:Int) (p:Q1):Option Int:=
 (Vp N version p).bind fun v1=>
 some v1.2
theorem Q41 {N} {version} {p} {r} (h:Vu N version p=some r):pU 8 [.int .i64 version,.agg (Q1.cells p)] (.int .i64 r):=by
 refine Q0 k8 ?_;unfold Vu at h;refine cP h Q43 (.cons (.p _) (.cons (Ap (Qo (f2_ (f1_ (.cons (.p _) p5))))) .nil)) fun v1 h=>?_;cases h;exact (.p _)
def Q1i (_N:Nat) (e:Qe):Option (Q1):=
 some (⟨3,e.Dup,e.Retain,e.QoS,e.ID,e.Topic,e.Payload,false,0,[],false,[],false,[],false,(⟨[],[],0,false,[]⟩:Xn),false,0,[],[],e.Props⟩:Q1)
theorem Q7n {N} {e} {r} (h:Q1i N e=some r):pU 32 [.agg (Qe.cells e)] (.agg (Q1.cells r)):=by
 refine Q0 k32 ?_;unfold Q1i at h;obtain rfl:=Qm h;exact (Ap (Qo (f2_ (f1_ (.cons (.nil _) (f2_ (.cons (.nil _) (.cons (.nil _) p1))))))))
def Q2j (_N:Nat) (proto:Int):Option (Int×Bool):=
 cond (Q3 .eql proto 1)
 (some (4,true))
 (cond (Q3 .eql proto 2)
 (some (5,true))
 (some (0,false)))
theorem Qb6 {N} {proto} {r} (h:Q2j N proto=some r):pU 28 [.int .i64 proto] (.tuple [.int .i64 r.1,.bool r.2]):=by
 refine Q0 k28 ?_;unfold Q2j at h;rw [cX] at h;refine iL2 h fun h=>?_;exact iB2 h
def Qab (_N:Nat) (l:Ua):Option Bool:=
 cond (Q3 .geq l.MaxPacket 16)
 (cond (Q3 .leq l.MaxPacket 1048576)
 (cond (Q3 .geq l.MaxDepth 0)
 (some (Q3 .leq l.MaxDepth 32))
 (some false))
 (some false))
 (some false)
theorem Qh5 {N} {l} {r} (h:Qab N l=some r):pU 57 [.agg (Ua.cells l)] (.bool r):=by
 refine Q0 k57 ?_;unfold Qab at h;rw [cX] at h;refine iR h fun h=>?_;refine iR h fun h=>?_;exact iB h
def Q15 (_N:Nat) (n_0:Int) (low:Int) (high:Int):Option Bool:=
 cond (Q3 .geq n_0 low)
 (some (Q3 .leq n_0 high))
 (some false)
theorem Q5x {N} {n_0} {low} {high} {r} (h:Q15 N n_0 low high=some r):pU 100 [.int .i64 n_0,.int .i64 low,.int .i64 high] (.bool r):=by
 refine Q0 Zeo ?_;unfold Q15 at h;rw [cX] at h;exact iB h
def Ue (rz:Q2→Q2→Option Bool) (N:Nat) (a:Q2) (b:Q2):Nat→Int→Option Bool
 | 0,_=>none
 | n+1,s22=>
  cond (Q3 .lss s22 ((Q2.rows a.Items).length:Int))
  ((idx a.Items s22).bind fun y24=>
  (idx b.Items s22).bind fun y26=>
  (rz y24 y26).bind fun v28=>
  cond (!v28)
  (some false)
  (Ue rz N a b n (wrap .i64 (s22+1))))
  (some true)
def Q53 (rz:Q2→Q2→Option Bool) (N:Nat) (a:Q2) (b:Q2):Option Bool:=
 cond (Q3 .neq a.Kind b.Kind)
 (some false)
 (cond (Q3 .neq a.N' b.N')
 (some false)
 (cond (Q0p .neq a.Text b.Text)
 (some false)
 (cond (Q3 .neq ((Q2.rows a.Items).length:Int) ((Q2.rows b.Items).length:Int))
 (some false)
 (Ue rz N a b N 0))))
theorem Qf0 {rz:Q2→Q2→Option Bool} (hy1:∀ {a} {b} {r},rz a b=some r→pU 190 [.agg (Q2.cells a),.agg (Q2.cells b)] (.bool r)) {N} {a} {b} {r} (h:Q53 rz N a b=some r):pU 190 [.agg (Q2.cells a),.agg (Q2.cells b)] (.bool r):=by
 refine Q0 Zih ?_;unfold Q53 at h;rw [cX,cY] at h;refine iL h fun h=>?_;refine iL h fun h=>?_;refine iL h fun h=>?_;refine iL h fun h=>?_;refine lpH (τ:=Int) (fun s22=>(.any :: .any :: .ptr 0 0 :: .ptr 1 0::a16 (a16 (iI ((Q2.rows a.Items).length:Int)::iI s22::a8 (a4 (a2 (.any :: []))))):List AV)) (fun n0 s22=>Ue rz N a b n0 s22) (0) h fun n0 s22 h=>?_
 first | rw [Ue] at h | simp only [Ue] at h
 rw [cX] at h;refine iR h fun h=>?_;refine Qk ?_;refine Q2.xR h fun y24 h=>?_;refine Q2.xR h fun y26 h=>?_;refine cD h hy1 (.cons q4 (.cons q4 .nil)) fun v28 h=>?_;refine iL h fun h=>?_;show Exists _;exact ⟨(n0,(wrap .i64 (s22+1))),h,Lf _,(fun i=>i),Yn⟩
def Gy:Nat→Q2→Q2→Option Bool
 | 0=>fun _ _=>none
 | N+1=>Q53 (Gy N) N
theorem Qey {N} {a} {b} {r} (h:Gy N a b=some r):pU 190 [.agg (Q2.cells a),.agg (Q2.cells b)] (.bool r):=by
 induction N generalizing a b r with
 | zero=>simp [Gy] at h
 | succ N ih=>exact Qf0 (fun h=>ih h) h
def Wd (N:Nat) (a:Yy) (b:Yy):Nat→Int→Option Bool
 | 0,_=>none
 | n+1,s22=>
  cond (Q3 .lss s22 ((Q2.rows a.Values).length:Int))
  ((idx a.Values s22).bind fun y24=>
  (idx b.Values s22).bind fun y26=>
  (Gy N y24 y26).bind fun v28=>
  cond (!v28)
  (some false)
  (Wd N a b n (wrap .i64 (s22+1))))
  (some true)
def Q08 (N:Nat) (a:Yy) (b:Yy):Option Bool:=
 cond (Q3 .neq a.Type' b.Type')
 (some false)
 (cond (Q3 .neq a.Channel b.Channel)
 (some false)
 (cond (Q0p .neq a.Ext b.Ext)
 (some false)
 (cond (Q3 .neq ((Q2.rows a.Values).length:Int) ((Q2.rows b.Values).length:Int))
 (some false)
 (Wd N a b N 0))))
theorem Q89 {N} {a} {b} {r} (h:Q08 N a b=some r):pU 114 [.agg (Yy.cells a),.agg (Yy.cells b)] (.bool r):=by
 refine Q0 Zf7 ?_;unfold Q08 at h;rw [cX,cY] at h;refine iL h fun h=>?_;refine iL h fun h=>?_;refine iL h fun h=>?_;refine iL h fun h=>?_;refine lpH (τ:=Int) (fun s22=>(a2 (.any :: .ptr 1 0::a16 (a16 (.p (.slice 4 (Q2.rows a.Values))::iI ((Q2.rows a.Values).length:Int)::iI s22::a8 (a4 (.any :: []))))):List AV)) (fun n0 s22=>Wd N a b n0 s22) (0) h fun n0 s22 h=>?_
 first | rw [Wd] at h | simp only [Wd] at h
 rw [cX] at h;refine iR h fun h=>?_;refine Q2.xR h fun y24 h=>?_;refine Qk ?_;refine Q2.xR h fun y26 h=>?_;refine cD h Qey (.cons q4 (.cons q4 .nil)) fun v28 h=>?_;refine iL h fun h=>?_;show Exists _;exact ⟨(n0,(wrap .i64 (s22+1))),h,Lf _,(fun i=>i),Yn⟩
def Q6d (N:Nat) (e:Qe):Option Bool:=
 (Z6 N e.Packet (⟨0,false,false,0,0,[],[],false,0,[],false,[],false,[],false,(⟨[],[],0,false,[]⟩:Xn),false,0,[],[],[]⟩:Q1)).bind fun v1=>
 cond v1
 (cond (((e.Msg.Type':Int) == 0)&&(((e.Msg.Flags.Dup:Bool) == false)&&(((e.Msg.Flags.QoS:Int) == 0)&&(((e.Msg.Flags.Retain:Bool) == false)&&(((e.Msg.Flags.Will:Bool) == false)&&(((e.Msg.Flags.Clean:Bool) == false)&&(((e.Msg.Flags.Type':Int) == 0)&&(((e.Msg.Gateway:Int) == 0)&&(((e.Msg.Radius:Int) == 0)&&(((e.Msg.Time:Int) == 0)&&(((e.Msg.Timed:Bool) == false)&&(((e.Msg.TopicID:Int) == 0)&&(((e.Msg.MsgID:Int) == 0)&&(((e.Msg.Code:Int) == 0)&&(((e.Msg.Name:List UInt8) == [])&&(((e.Msg.Data:List UInt8) == [])&&true))))))))))))))))
 ((Q08 N e.Frame (⟨0,0,[],[]⟩:Yy)).bind fun v5=>
 some v5)
 (some false))
 (some false)
theorem Qjb {N} {e} {r} (h:Q6d N e=some r):pU 109 [.agg (Qe.cells e)] (.bool r):=by
 refine Q0 Zmd ?_;unfold Q6d at h;refine cP h Zc (.cons (Ap (Qo (f2_ (f1_ (.cons (.p _) p5))))) (.cons (Ap (Qo (f2_ (f1_ (.cons (.nil _) (f2_ (.cons (.nil _) (.cons (.nil _) (.cons (.nil _) .nil))))))))) .nil)) fun v1 h=>?_;refine iR h fun h=>?_;refine Qn9 (ks := [0,2,0,2,2,2,0,0,0,0,2,0,0,0,1,1]) (xs := [iI e.Msg.Type',.p (.bool e.Msg.Flags.Dup),iI e.Msg.Flags.QoS,.p (.bool e.Msg.Flags.Retain),.p (.bool e.Msg.Flags.Will),.p (.bool e.Msg.Flags.Clean),iI e.Msg.Flags.Type',iI e.Msg.Gateway,iI e.Msg.Radius,iI e.Msg.Time,.p (.bool e.Msg.Timed),iI e.Msg.TopicID,iI e.Msg.MsgID,iI e.Msg.Code,iS e.Msg.Name,iS e.Msg.Data]) (ys := [iI 0,.p (.bool false),iI 0,.p (.bool false),.p (.bool false),.p (.bool false),iI 0,iI 0,iI 0,iI 0,.p (.bool false),iI 0,iI 0,iI 0,iS [],iS []]) (b:=(((e.Msg.Type':Int) == 0)&&(((e.Msg.Flags.Dup:Bool) == false)&&(((e.Msg.Flags.QoS:Int) == 0)&&(((e.Msg.Flags.Retain:Bool) == false)&&(((e.Msg.Flags.Will:Bool) == false)&&(((e.Msg.Flags.Clean:Bool) == false)&&(((e.Msg.Flags.Type':Int) == 0)&&(((e.Msg.Gateway:Int) == 0)&&(((e.Msg.Radius:Int) == 0)&&(((e.Msg.Time:Int) == 0)&&(((e.Msg.Timed:Bool) == false)&&(((e.Msg.TopicID:Int) == 0)&&(((e.Msg.MsgID:Int) == 0)&&(((e.Msg.Code:Int) == 0)&&(((e.Msg.Name:List UInt8) == [])&&(((e.Msg.Data:List UInt8) == [])&&true))))))))))))))))) rfl ?_;refine iR h fun h=>?_;refine cP h Q89 (.cons q4 (.cons q4n .nil)) fun v5 h=>?_;cases h;exact (.p _)
def Q2l:List (Int×Q1o) := [(1,(⟨[109,113,116,116,51]⟩:Q1o)),(2,(⟨[109,113,116,116,53]⟩:Q1o)),(3,(⟨[115,110]⟩:Q1o)),(4,(⟨[97,109,113,112]⟩:Q1o))]
theorem Qfz:pU 180 [] (.pmap (Z5c (fun v => .agg (Q1o.cells v)) Q2l)):=Uq Qaq (N:=2000) (d:=60) (by kernel_rfl)
def Q4v (_N:Nat) (proto:Int):Option Bool:=
 optC (Q55 Q2l proto) (fun m1=>
 some true)
 (some false)
theorem Qh1 {N} {proto} {r} (h:Q4v N proto=some r):pU 96 [.int .i64 proto] (.bool r):=by
 refine Q0 k96 ?_;unfold Q4v at h;refine Q64 Qfz .nil ?_;refine Z0q h (fun m1 hm2 h=>?_) (fun hm2 h=>?_)
 ·cases h;exact (.p _)
 cases h;exact (.p _)
def Jt (N:Nat) (e:Qe):Option Int:=
 (Q6d N e).bind fun v65=>
 cond (!v65)
 (some 2)
 ((X8 N 3 e.Props).bind fun v71=>
 cond (Q3 .neq v71 0)
 (some 9)
 (some 0))
def Ju (N:Nat) (e:Qe):Option Int:=
 cond (Q3 .eql e.Proto 3)
 (none)
 (cond (Q3 .neq e.Type' 0)
 (some 2)
 (cond (Q3 .gtr ((Q6 Q3f.cells e.Hops).length:Int) 0)
 (some 2)
 ((Q15 N e.Channel 0 65535).bind fun v55=>
 cond (!v55)
 (some 2)
 (cond (Q3 .neq e.Channel 0)
 (cond (Q3 .neq e.Proto 4)
 (some 2)
 (Jt N e))
 (Jt N e)))))
def Uf (N:Nat) (e:Qe):Option Int:=
 cond (Q3 .gtr ((Q6 Qb.cells e.Props).length:Int) 0)
 (cond (Q3 .neq e.Proto 2)
 (some 2)
 (Ju N e))
 (Ju N e)
def G0 (N:Nat) (e:Qe) (c2:Bool):Option Int:=
 (Q15 N e.ID 0 65535).bind fun v32=>
 cond (!v32)
 (some 2)
 (cond (!(c2 == (Q3 .neq e.ID 0)))
 (some 2)
 (cond e.Dup
 (cond (!c2)
 (cond (!(Q3 .eql e.Proto 3))
 (some 2)
 (Uf N e))
 (Uf N e))
 (Uf N e)))
def Jx (N:Nat) (e:Qe) (c2:Bool):Option Int:=
 (Q4v N e.Proto).bind fun v8=>
 cond (!v8)
 (some 2)
 (cond (Q3 .neq e.Kind 1)
 (some 2)
 ((Jl N e.Topic).bind fun v15=>
 cond (!v15)
 (some 10)
 ((Q15 N e.QoS 0 2).bind fun v23=>
 cond (!v23)
 (cond (Q3 .eql e.Proto 3)
 (cond (!(Q3 .eql e.QoS (-1)))
 (some 2)
 (G0 N e c2))
 (some 2))
 (G0 N e c2))))
def Q1l (N:Nat) (e:Qe):Option Int:=
 cond (Q3 .eql e.QoS 1)
 (Jx N e true)
 (Jx N e (Q3 .eql e.QoS 2))
theorem Qe2 {N} {e} {r} (h:Q1l N e=some r):pU 58 [.agg (Qe.cells e)] (.int .i64 r):=by
 refine Q0 k58 ?_;unfold Q1l at h;rw [cX] at h;refine jrA (r:=r) (σ:=Bool) (fun _=>(.any :: .ptr 0 0 :: .any :: .ptr 1 0 :: .ptr 2 0::a16 (a16 (a16 (.any :: []))):List AV)) (fun c2=>(.cells (Q5z e ([])) :: .cells (.p (.bool (Qlv .eql e.Proto 3)) :: []) :: .cells (.p (.bool c2) :: []) :: []:List AObj)) (fun c2=>Jx N e c2) ?_ ?_
 ·apply iU h<;>intro h
  ·show Exists _;exact ⟨(true),h,(fun i=>i),Yn⟩
  show Exists _;exact ⟨((Qlv .eql e.QoS 2)),h,(fun i=>i),Yn⟩
 rintro c2 h
 unfold Jx at h;rw [cX] at h;refine rdI 13 ?_;refine rdP ?_;refine dT ?_;refine Zy k95 ?_;refine cP h Qh1 p1 fun v8 h=>?_;refine iL h fun h=>?_;refine iL h fun h=>?_;refine rdP ?_;refine dT ?_;refine Zy k97 ?_;refine cP h Q05 p1 fun v15 h=>?_;refine iL h fun h=>?_;refine rdJ (r:=r) (x:=G0 N e c2) (a16 (a16 (a8 (a2 (.slice 2 3 0 11::iI 11::iI 3::a8 (.any :: [])))))) ?_ ?_
 ·refine dT ?_;refine Zy k99 ?_;refine cP h Q5x p3 fun v23 h=>?_;apply iU h<;>intro h
  ·refine iR h fun h=>?_;refine iL h fun h=>?_;show Exists _;exact ⟨(),h,(fun i=>i),Yn⟩
  show Exists _;exact ⟨(),h,(fun i=>i),Yn⟩
 intro h;unfold G0 at h;rw [cX] at h;refine rdP ?_;refine dT ?_;refine Zy Zbp ?_;refine cP h Q5x p3 fun v32 h=>?_;refine iL h fun h=>?_;refine iL h fun h=>?_;refine rdJ (r:=r) (x:=Uf N e) (a16 (a16 (a8 (a2 (.slice 2 3 0 11::iI 11::iI 5::a8 (.any :: [])))))) ?_ ?_
 ·refine dT ?_;refine Zy Zd0 ?_;apply iU h<;>intro h
  ·apply iU h<;>intro h
   ·refine iL h fun h=>?_;show Exists _;exact ⟨(),h,(fun i=>i),Yn⟩
   show Exists _;exact ⟨(),h,(fun i=>i),Yn⟩
  show Exists _;exact ⟨(),h,(fun i=>i),Yn⟩
 intro h;unfold Uf at h;rw [cX] at h;refine rdJ (r:=r) (x:=Ju N e) (a16 (a16 (a8 (a2 (.slice 2 3 0 11::iI 11::iI 6::a8 (.any :: [])))))) ?_ ?_
 ·refine dT ?_;refine Zy Zjg ?_;apply iU h<;>intro h
  ·refine iL h fun h=>?_;show Exists _;exact ⟨(),h,(fun i=>i),Yn⟩
  show Exists _;exact ⟨(),h,(fun i=>i),Yn⟩
 intro h;unfold Ju at h;rw [cX] at h;refine rdP ?_;refine dT ?_;refine Zy Zm7 ?_;refine ifO h (fun hc49 h=>?_) (fun hc49 h=>?_)
 ·first | (cases h;done) | (simp [Qby] at h;done)
 refine ifT (Z2y hc49) ?_;refine iL h fun h=>?_;refine iL h fun h=>?_;refine rdP ?_;refine dT ?_;refine Zy Zcy ?_;refine cP h Q5x p3 fun v55 h=>?_;refine iL h fun h=>?_;refine rdJ (r:=r) (x:=Jt N e) (a16 (a16 (a8 (a2 (.slice 2 3 0 11::iI 11::iI 9::a8 (.any :: [])))))) ?_ ?_
 ·refine dT ?_;refine Zy Zek ?_;apply iU h<;>intro h
  ·refine iL h fun h=>?_;show Exists _;exact ⟨(),h,(fun i=>i),Yn⟩
  show Exists _;exact ⟨(),h,(fun i=>i),Yn⟩
 intro h;unfold Jt at h;rw [cX] at h;refine rdP ?_;refine dT ?_;refine Zy Zpy ?_;refine cP h Qjb (.cons (Ap (Qo (Qo (Qo (f2_ (f1_ (.cons (.p _) p5))))))) .nil) fun v65 h=>?_;refine iL h fun h=>?_;refine rdP ?_;refine dT ?_;refine Zy Z9l ?_;refine cP h Xy p2 fun v71 h=>?_;refine iL h fun h=>?_;refine rdP ?_;refine dF ?_;cases h;exact (.p _)
def Q2d (N:Nat) (a:List Qb) (b:List Qb):Nat→Int→Option Bool
 | 0,_=>none
 | n+1,s15=>
  cond (Q3 .lss s15 ((Q6 Qb.cells a).length:Int))
  ((idx a s15).bind fun y17=>
  (idx b s15).bind fun y19=>
  cond (!(((y17.ID:Int) == y19.ID)&&(((y17.N':Int) == y19.N')&&(((y17.Text:List UInt8) == y19.Text)&&(((y17.Value:List UInt8) == y19.Value)&&true)))))
  (some false)
  (Q2d N a b n (wrap .i64 (s15+1))))
  (some true)
def Q72 (N:Nat) (a:List Qb) (b:List Qb):Option Bool:=
 cond (Q3 .neq ((Q6 Qb.cells a).length:Int) ((Q6 Qb.cells b).length:Int))
 (some false)
 (Q2d N a b N 0)
theorem Qjx {N} {a} {b} {r} (h:Q72 N a b=some r):pU 187 [.slice 4 (Q6 Qb.cells a),.slice 4 (Q6 Qb.cells b)] (.bool r):=by
 refine Q0 Zcg ?_;unfold Q72 at h;rw [cX] at h;refine iL h fun h=>?_;refine lpH (τ:=Int) (fun s15=>(.p (.slice 4 (Q6 Qb.cells a)) :: .p (.slice 4 (Q6 Qb.cells b))::a8 (a2 (iI ((Q6 Qb.cells a).length:Int)::iI s15::a8 (a4 ([])))):List AV)) (fun n0 s15=>Q2d N a b n0 s15) (0) h fun n0 s15 h=>?_
 first | rw [Q2d] at h | simp only [Q2d] at h
 rw [cX] at h;refine iR h fun h=>?_;refine Qk ?_;refine xR h fun y17 h=>?_;refine xR h fun y19 h=>?_;refine iL h fun h=>?_;show Exists _;exact ⟨(n0,(wrap .i64 (s15+1))),h,Lf _,(fun i=>i),Yn⟩
end
end
end Go.Av
