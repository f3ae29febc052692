/- Part of FrommqttCalls: the law returns true; no condition. -/
import Derived.Test.YtbcddiagcaddbaaGreatDoorLiftTy
import Derived.Test.YtbcddiagcaddbaaGreatDoorChks
import Derived.Test.YtbcddiagcaddbaaGreatDoorSeat1
import Derived.Test.YtbcddiagcaddbaaGreatDoorKn1
import Derived.Test.YtbcddiagcaddbaaGreatDoorRound
import Derived.Test.YtbcddiagcaddbaaGreatDoorMan06
import Derived.Test.YtbcddiagcaddbaaGreatDoorShelfJ
import Derived.Test.YtbcddiagcaddbaaGreatDoorClones
set_option linter.all false
open Go.IntKind (wrap)
namespace Go.Av
noncomputable section
open Go.Proofs
set_option maxRecDepth 100000
set_option maxHeartbeats 4000000
attribute [local irreducible] Q06 Ue Qdu Qjw Qxl Qy1 Qj3
section
abbrev pU:=Qd9 Tryz.prog G1
abbrev gU:=GC Tryz.prog G1
def Q5y (_N:Nat):Option (Q1):=
 some (⟨3,false,false,0,0,[97,47,98],[104,105],false,0,[],false,[],false,[],false,(⟨[],[],0,false,[]⟩:Y5),false,0,[],[],[]⟩:Q1)
theorem Qc5 {N} {r} (h:Q5y N=some r):pU 19 [] (.agg (Q1.cells r)):=by
 refine Q0 k19 ?_;unfold Q5y at h;obtain rfl:=Qi h;exact (Ap (Qo (f2_ (f1_ (.cons (.nil _) (f2_ (.cons (.nil _) (.cons (.nil _) (.cons (.nil _) .nil)))))))))
def Q3a (_N:Nat) (s_0:List UInt8):Option Bool:=
 cond (Q4 .geq (s_0.length:Int) 3)
 (cond (Nat.ble 0 3&&Nat.ble 3 s_0.length) (some (Q1l .eql ((s_0.take 3).drop 0) [239,191,189])) none)
 (some false)
theorem Qes {N} {s_0} {r} (h:Q3a N s_0=some r):pU 360 [.str s_0] (.bool r):=by
 refine Q0 Zcu ?_;unfold Q3a at h;rw [cX,cY] at h;refine iR h fun h=>?_;refine kU h fun h=>?_;cases h;exact (.p _)
def Ut (N:Nat) (s_0:List UInt8):Nat->Nat->Option Int
 | 0,_=>none
 | n+1,pos16=>
  cond (Nat.blt pos16 s_0.length)
  (cond (Q4 .eql (((Qg6 s_0 pos16).1:Nat):Int) 0)
  (some ((pos16:Nat):Int))
  (cond (Q4 .eql (((Qg6 s_0 pos16).1:Nat):Int) 65533)
  (cond (Nat.ble pos16 s_0.length&&Nat.ble s_0.length s_0.length) ((Q3a N ((s_0.take s_0.length).drop pos16)).bind fun v21=>
  cond (!v21)
  (some ((pos16:Nat):Int))
  (Ut N s_0 n (pos16+(Qg6 s_0 pos16).2))) none)
  (Ut N s_0 n (pos16+(Qg6 s_0 pos16).2))))
  (some (-1))
def Q79 (N:Nat) (s_0:List UInt8):Option Int:=
 Ut N s_0 N 0
theorem Qhx {N} {s_0} {r} (h:Q79 N s_0=some r):pU 284 [.str s_0] (.int .i64 r):=by
 refine Q0 Zp6 ?_;unfold Q79 at h;refine lpA (τ:=Nat) (fun _=>(iS s_0::a4 (.any :: .ptr 0 0::a16 (a2 ([]))):List AV)) (fun pos16=>(.strIter s_0 pos16 :: []:List AObj)) (fun n0 pos16=>Ut N s_0 n0 pos16) (0) h fun n0 pos16 h=>?_
 first | rw [Ut] at h | simp only [Ut] at h
 rw [cX] at h;refine iR h fun h=>?_;refine iL h fun h=>?_;apply iU h<;>intro h
 ·refine kU h fun h=>?_;refine cP h Qes p1 fun v21 h=>?_;refine iL h fun h=>?_;show Exists _;exact ⟨(n0,(pos16+(Qg6 s_0 pos16).2)),h,Le _,(fun i=>i),Yf⟩
 show Exists _;exact ⟨(n0,(pos16+(Qg6 s_0 pos16).2)),h,Le _,(fun i=>i),Yf⟩
def Yw (N:Nat) (s_0:List UInt8):Option Bool:=
 cond (Q4 .leq (s_0.length:Int) 65535)
 ((Q79 N s_0).bind fun v2=>
 some (Q4 .eql v2 (-1)))
 (some false)
theorem Xj {N} {s_0} {r} (h:Yw N s_0=some r):pU 195 [.str s_0] (.bool r):=by
 refine Q0 Ze5 ?_;unfold Yw at h;rw [cX] at h;refine iR h fun h=>?_;refine cP h Qhx p1 fun v2 h=>?_;cases h;exact (.p _)
def Q7j (_N:Nat) (version:Int):Option Bool:=
 cond (Q4 .eql version 4)
 (some true)
 (some (Q4 .eql version 5))
theorem Qf9 {N} {version} {r} (h:Q7j N version=some r):pU 245 [.int .i64 version] (.bool r):=by
 refine Q0 Zqf ?_;unfold Q7j at h;rw [cX] at h;exact iB h
def Q6k (_N:Nat) (kind:Int):Option Bool:=
 cond (Q4 .eql kind 1)
 (some true)
 (some (Q4 .eql kind 2))
theorem Qgp {N} {kind} {r} (h:Q6k N kind=some r):pU 246 [.int .i64 kind] (.bool r):=by
 refine Q0 Zk1 ?_;unfold Q6k at h;rw [cX] at h;exact iB h
def Q8n (_N:Nat) (p:Q1):Option (Q9g):=
 some (⟨p.Kind,p.QoS,p.ID,p.KeepAlive,p.Code,p.Dup,p.Retain,p.Clean,p.HasUser,p.HasPass,p.HasWill,p.Session,p.Topic,p.Payload,p.Client,p.User,p.Pass⟩:Q9g)
theorem Qbw {N} {p} {r} (h:Q8n N p=some r):pU 198 [.agg (Q1.cells p)] (.agg (Q9g.cells r)):=by
 refine Q0 Zkv ?_;unfold Q8n at h;obtain rfl:=Qi h;exact (Ap (f8_ za))
def Q3h (_N:Nat) (a:Q6) (b:Q6):Option Bool:=
 some (((a.ID:Int) == b.ID)&&(((a.N':Int) == b.N')&&(((a.Text:List UInt8) == b.Text)&&(((a.Value:List UInt8) == b.Value)&&true))))
theorem Q9s {N} {a} {b} {r} (h:Q3h N a b=some r):pU 294 [.agg (Q6.cells a),.agg (Q6.cells b)] (.bool r):=by
 refine Q0 Zm4 ?_;unfold Q3h at h;cases h;exact (.p _)
def Wu (N:Nat) (a:List Q6) (b:List Q6):Nat->Int->Option Bool
 | 0,_=>none
 | n+1,s19=>
  cond (Q4 .lss s19 ((Q7 Q6.cells a).length:Int))
  ((idx a s19).bind fun y21=>
  (idx b s19).bind fun y23=>
  (Q3h N y21 y23).bind fun v25=>
  cond (!v25)
  (some false)
  (Wu N a b n (wrap .i64 (s19+1))))
  (some true)
def Ur (N:Nat) (a:List Q6) (b:List Q6):Option Bool:=
 cond (Q4 .neq ((Q7 Q6.cells a).length:Int) ((Q7 Q6.cells b).length:Int))
 (some false)
 (Wu N a b N 0)
theorem Q5z {N} {a} {b} {r} (h:Ur N a b=some r):pU 202 [.slice 4 (Q7 Q6.cells a),.slice 4 (Q7 Q6.cells b)] (.bool r):=by
 refine Q0 Zb9 ?_;unfold Ur at h;rw [cX] at h;refine Zx Zk8 ?_;refine iL h fun h=>?_;refine lpH (τ:=Int) (fun s19=>(.any :: .p (.slice 4 (Q7 Q6.cells b)) :: .p (.func (.func 294) [] [])::a8 (a4 (.p (.slice 4 (Q7 Q6.cells a))::iI ((Q7 Q6.cells a).length:Int)::iI s19::a8 (a4 (a2 ([]))))):List AV)) (fun n0 s19=>Wu N a b n0 s19) (0) h fun n0 s19 h=>?_
 first | rw [Wu] at h | simp only [Wu] at h
 rw [cX] at h;refine iR h fun h=>?_;refine xR h fun y21 h=>?_;refine xR h fun y23 h=>?_;refine cP h Q9s (.cons q4 (.cons q4 .nil)) fun v25 h=>?_;refine iL h fun h=>?_;show Exists _;exact ⟨(n0,(wrap .i64 (s19+1))),h,Le _,(fun i=>i),Yf⟩
def Q3d (N:Nat) (a:Y5) (b:Y5):Option Bool:=
 cond (Q1l .eql a.Topic b.Topic)
 (cond (Q1l .eql a.Payload b.Payload)
 (cond (Q4 .eql a.QoS b.QoS)
 (cond (a.Retain == b.Retain)
 ((Ur N a.Props b.Props).bind fun v5=>
 some v5)
 (some false))
 (some false))
 (some false))
 (some false)
theorem Qej {N} {a} {b} {r} (h:Q3d N a b=some r):pU 199 [.agg (Y5.cells a),.agg (Y5.cells b)] (.bool r):=by
 refine Q0 Zkz ?_;unfold Q3d at h;rw [cX,cY] at h;refine iR h fun h=>?_;refine iR h fun h=>?_;refine iR h fun h=>?_;refine iR h fun h=>?_;refine cP h Q5z p2 fun v5 h=>?_;cases h;exact (.p _)
def Q71 (_N:Nat) (a:Int) (b:Int):Option Bool:=
 some (Q4 .eql a b)
theorem Qe0 {N} {a} {b} {r} (h:Q71 N a b=some r):pU 290 [.int .i64 a,.int .i64 b] (.bool r):=by
 refine Q0 Zbx ?_;unfold Q71 at h;rw [cX] at h;cases h;exact (.p _)
def G4 (N:Nat) (a:List Int) (b:List Int):Nat->Int->Option Bool
 | 0,_=>none
 | n+1,s19=>
  cond (Q4 .lss s19 ((Q7 (cI .i64) a).length:Int))
  ((idx a s19).bind fun y21=>
  (idx b s19).bind fun y23=>
  (Q71 N y21 y23).bind fun v25=>
  cond (!v25)
  (some false)
  (G4 N a b n (wrap .i64 (s19+1))))
  (some true)
def Q3e (N:Nat) (a:List Int) (b:List Int):Option Bool:=
 cond (Q4 .neq ((Q7 (cI .i64) a).length:Int) ((Q7 (cI .i64) b).length:Int))
 (some false)
 (G4 N a b N 0)
theorem Qeu {N} {a} {b} {r} (h:Q3e N a b=some r):pU 200 [.slice 1 (Q7 (cI .i64) a),.slice 1 (Q7 (cI .i64) b)] (.bool r):=by
 refine Q0 Zn9 ?_;unfold Q3e at h;rw [cX] at h;refine Zx Zav ?_;refine iL h fun h=>?_;refine lpH (τ:=Int) (fun s19=>(.any :: .p (.slice 1 (Q7 (cI .i64) b)) :: .p (.func (.func 290) [] [])::a8 (a4 (.p (.slice 1 (Q7 (cI .i64) a)) :: .p (.int .i64 ((Q7 (cI .i64) a).length:Int))::iI s19::a8 (a4 (a2 ([]))))):List AV)) (fun n0 s19=>G4 N a b n0 s19) (0) h fun n0 s19 h=>?_
 first | rw [G4] at h | simp only [G4] at h
 rw [cX] at h;refine iR h fun h=>?_;refine xR h fun y21 h=>?_;refine xR h fun y23 h=>?_;refine cP h Qe0 p2 fun v25 h=>?_;refine iL h fun h=>?_;show Exists _;exact ⟨(n0,(wrap .i64 (s19+1))),h,Le _,(fun i=>i),Yf⟩
def Q29 (_N:Nat) (a:Qa) (b:Qa):Option Bool:=
 some (((a.Topic:List UInt8) == b.Topic)&&(((a.QoS:Int) == b.QoS)&&(((a.NoLocal:Bool) == b.NoLocal)&&(((a.AsPublished:Bool) == b.AsPublished)&&(((a.Handling:Int) == b.Handling)&&true)))))
theorem Q8h {N} {a} {b} {r} (h:Q29 N a b=some r):pU 292 [.agg (Qa.cells a),.agg (Qa.cells b)] (.bool r):=by
 refine Q0 Zjz ?_;unfold Q29 at h;cases h;exact (.p _)
def Xz (N:Nat) (a:List Qa) (b:List Qa):Nat->Int->Option Bool
 | 0,_=>none
 | n+1,s19=>
  cond (Q4 .lss s19 ((Q7 Qa.cells a).length:Int))
  ((idx a s19).bind fun y21=>
  (idx b s19).bind fun y23=>
  (Q29 N y21 y23).bind fun v25=>
  cond (!v25)
  (some false)
  (Xz N a b n (wrap .i64 (s19+1))))
  (some true)
def Uz (N:Nat) (a:List Qa) (b:List Qa):Option Bool:=
 cond (Q4 .neq ((Q7 Qa.cells a).length:Int) ((Q7 Qa.cells b).length:Int))
 (some false)
 (Xz N a b N 0)
theorem Q8v {N} {a} {b} {r} (h:Uz N a b=some r):pU 201 [.slice 5 (Q7 Qa.cells a),.slice 5 (Q7 Qa.cells b)] (.bool r):=by
 refine Q0 Zl6 ?_;unfold Uz at h;rw [cX] at h;refine Zx Zfn ?_;refine iL h fun h=>?_;refine lpH (τ:=Int) (fun s19=>(.any :: .p (.slice 5 (Q7 Qa.cells b)) :: .p (.func (.func 292) [] [])::a8 (a4 (.p (.slice 5 (Q7 Qa.cells a))::iI ((Q7 Qa.cells a).length:Int)::iI s19::a8 (a4 (a2 ([]))))):List AV)) (fun n0 s19=>Xz N a b n0 s19) (0) h fun n0 s19 h=>?_
 first | rw [Xz] at h | simp only [Xz] at h
 rw [cX] at h;refine iR h fun h=>?_;refine xR h fun y21 h=>?_;refine xR h fun y23 h=>?_;refine cP h Q8h (.cons (Ap p5) (.cons (Ap p5) .nil)) fun v25 h=>?_;refine iL h fun h=>?_;show Exists _;exact ⟨(n0,(wrap .i64 (s19+1))),h,Le _,(fun i=>i),Yf⟩
def Z5 (N:Nat) (a:Q1) (b:Q1):Option Bool:=
 (Q8n N a).bind fun v1=>
 (Q8n N b).bind fun v3=>
 cond (((v1.kind:Int) == v3.kind)&&(((v1.qos:Int) == v3.qos)&&(((v1.id:Int) == v3.id)&&(((v1.alive:Int) == v3.alive)&&(((v1.code:Int) == v3.code)&&(((v1.dup:Bool) == v3.dup)&&(((v1.retain:Bool) == v3.retain)&&(((v1.clean:Bool) == v3.clean)&&(((v1.user:Bool) == v3.user)&&(((v1.pass:Bool) == v3.pass)&&(((v1.will:Bool) == v3.will)&&(((v1.again:Bool) == v3.again)&&(((v1.topic:List UInt8) == v3.topic)&&(((v1.payload:List UInt8) == v3.payload)&&(((v1.client:List UInt8) == v3.client)&&(((v1.name:List UInt8) == v3.name)&&(((v1.word:List UInt8) == v3.word)&&true)))))))))))))))))
 ((Q3d N a.Will b.Will).bind fun v6=>
 cond v6
 ((Q3e N a.Codes b.Codes).bind fun v9=>
 cond v9
 ((Uz N a.Filters b.Filters).bind fun v12=>
 cond v12
 ((Ur N a.Props b.Props).bind fun v15=>
 some v15)
 (some false))
 (some false))
 (some false))
 (some false)
theorem Za {N} {a} {b} {r} (h:Z5 N a b=some r):pU 136 [.agg (Q1.cells a),.agg (Q1.cells b)] (.bool r):=by
 refine Q0 Zmb ?_;unfold Z5 at h;refine Ql ?_;obtain ⟨v1,hv2,h⟩:=Q3o h;refine Q52 (Qbw hv2) (.cons (Ap (Qo (f8_ (.cons (.p _) .nil)))) .nil) ?_;obtain ⟨v3,hv4,h⟩:=Q3o h;refine Q52 (Qbw hv4) (.cons (Ap (Qo (f8_ (.cons (.p _) .nil)))) .nil) ?_;refine Qo8 (ks := [0,0,0,0,0,2,2,2,2,2,2,2,1,1,1,1,1]) (xs := [.p (.int .i64 v1.kind),.p (.int .i64 v1.qos),.p (.int .i64 v1.id),.p (.int .i64 v1.alive),.p (.int .i64 v1.code),.p (.bool v1.dup),.p (.bool v1.retain),.p (.bool v1.clean),.p (.bool v1.user),.p (.bool v1.pass),.p (.bool v1.will),.p (.bool v1.again),.p (.str v1.topic),.p (.str v1.payload),.p (.str v1.client),.p (.str v1.name),.p (.str v1.word)]) (ys := [.p (.int .i64 v3.kind),.p (.int .i64 v3.qos),.p (.int .i64 v3.id),.p (.int .i64 v3.alive),.p (.int .i64 v3.code),.p (.bool v3.dup),.p (.bool v3.retain),.p (.bool v3.clean),.p (.bool v3.user),.p (.bool v3.pass),.p (.bool v3.will),.p (.bool v3.again),.p (.str v3.topic),.p (.str v3.payload),.p (.str v3.client),.p (.str v3.name),.p (.str v3.word)]) (b:=(((v1.kind:Int) == v3.kind)&&(((v1.qos:Int) == v3.qos)&&(((v1.id:Int) == v3.id)&&(((v1.alive:Int) == v3.alive)&&(((v1.code:Int) == v3.code)&&(((v1.dup:Bool) == v3.dup)&&(((v1.retain:Bool) == v3.retain)&&(((v1.clean:Bool) == v3.clean)&&(((v1.user:Bool) == v3.user)&&(((v1.pass:Bool) == v3.pass)&&(((v1.will:Bool) == v3.will)&&(((v1.again:Bool) == v3.again)&&(((v1.topic:List UInt8) == v3.topic)&&(((v1.payload:List UInt8) == v3.payload)&&(((v1.client:List UInt8) == v3.client)&&(((v1.name:List UInt8) == v3.name)&&(((v1.word:List UInt8) == v3.word)&&true)))))))))))))))))) rfl ?_;refine ifO h (fun hc5 h=>?_) (fun hc5 h=>?_)
 ·obtain ⟨v6,hv7,h⟩:=Q3o h;refine Q52 (Qej hv7) (.cons (Ap (f4_ (.cons (.p _) .nil))) (.cons (Ap (f4_ (.cons (.p _) .nil))) .nil)) ?_;refine ifO h (fun hc8 h=>?_) (fun hc8 h=>?_)
  ·obtain ⟨v9,hv10,h⟩:=Q3o h;refine Q52 (Qeu hv10) (.cons (.p _) (.cons (.p _) .nil)) ?_;refine ifO h (fun hc11 h=>?_) (fun hc11 h=>?_)
   ·obtain ⟨v12,hv13,h⟩:=Q3o h;refine Q52 (Q8v hv13) (.cons (.p _) (.cons (.p _) .nil)) ?_;refine ifO h (fun hc14 h=>?_) (fun hc14 h=>?_)
    ·obtain ⟨v15,hv16,h⟩:=Q3o h;refine Q52 (Q5z hv16) (.cons (.p _) (.cons (.p _) .nil)) ?_;have hr:=Qi h;subst hr;exact (.p _)
    have hr:=Qi h;subst hr;exact (.p _)
   have hr:=Qi h;subst hr;exact (.p _)
  have hr:=Qi h;subst hr;exact (.p _)
 have hr:=Qi h;subst hr;exact (.p _)
def Q3b (N:Nat) (p:Q1):Option Bool:=
 cond (Q4 .eql p.Kind 2)
 ((Z5 N p (⟨p.Kind,false,false,0,0,[],[],false,0,[],false,[],false,[],false,(⟨[],[],0,false,[]⟩:Y5),p.Session,p.Code,[],[],p.Props⟩:Q1)).bind fun v2=>
 some v2)
 (cond p.HasWill
 (cond p.HasUser
 (cond p.HasPass
 ((Z5 N p (⟨p.Kind,false,false,0,0,[],[],p.Clean,p.KeepAlive,p.Client,p.HasUser,p.User,p.HasPass,p.Pass,p.HasWill,p.Will,false,0,[],[],p.Props⟩:Q1)).bind fun v7=>
 some v7)
 ((Z5 N p (⟨p.Kind,false,false,0,0,[],[],p.Clean,p.KeepAlive,p.Client,p.HasUser,p.User,p.HasPass,[],p.HasWill,p.Will,false,0,[],[],p.Props⟩:Q1)).bind fun v9=>
 some v9))
 (cond p.HasPass
 ((Z5 N p (⟨p.Kind,false,false,0,0,[],[],p.Clean,p.KeepAlive,p.Client,p.HasUser,[],p.HasPass,p.Pass,p.HasWill,p.Will,false,0,[],[],p.Props⟩:Q1)).bind fun v12=>
 some v12)
 ((Z5 N p (⟨p.Kind,false,false,0,0,[],[],p.Clean,p.KeepAlive,p.Client,p.HasUser,[],p.HasPass,[],p.HasWill,p.Will,false,0,[],[],p.Props⟩:Q1)).bind fun v14=>
 some v14)))
 (cond p.HasUser
 (cond p.HasPass
 ((Z5 N p (⟨p.Kind,false,false,0,0,[],[],p.Clean,p.KeepAlive,p.Client,p.HasUser,p.User,p.HasPass,p.Pass,p.HasWill,(⟨[],[],0,false,[]⟩:Y5),false,0,[],[],p.Props⟩:Q1)).bind fun v18=>
 some v18)
 ((Z5 N p (⟨p.Kind,false,false,0,0,[],[],p.Clean,p.KeepAlive,p.Client,p.HasUser,p.User,p.HasPass,[],p.HasWill,(⟨[],[],0,false,[]⟩:Y5),false,0,[],[],p.Props⟩:Q1)).bind fun v20=>
 some v20))
 (cond p.HasPass
 ((Z5 N p (⟨p.Kind,false,false,0,0,[],[],p.Clean,p.KeepAlive,p.Client,p.HasUser,[],p.HasPass,p.Pass,p.HasWill,(⟨[],[],0,false,[]⟩:Y5),false,0,[],[],p.Props⟩:Q1)).bind fun v23=>
 some v23)
 ((Z5 N p (⟨p.Kind,false,false,0,0,[],[],p.Clean,p.KeepAlive,p.Client,p.HasUser,[],p.HasPass,[],p.HasWill,(⟨[],[],0,false,[]⟩:Y5),false,0,[],[],p.Props⟩:Q1)).bind fun v25=>
 some v25))))
theorem Qf3 {N} {p} {r} (h:Q3b N p=some r):pU 328 [.agg (Q1.cells p)] (.bool r):=by
 refine Q0 Ziw ?_;unfold Q3b at h;rw [cX] at h;apply iU h<;>intro h
 ·refine Ql ?_;refine cP h Za (.cons zb (.cons (Ap (Qo (f2_ (f1_ (.cons (.nil _) (f2_ (.cons (.nil _) (.cons (.nil _) p1)))))))) .nil)) fun v2 h=>?_;cases h;exact (.p _)
 refine Ql ?_;apply iU h<;>intro h
 ·apply iU h<;>intro h
  ·apply iU h<;>intro h
   ·refine cP h Za (.cons zb (.cons (Ap (Qo (f4_ (f2_ (.cons (.nil _) (.cons (.nil _) p1)))))) .nil)) fun v7 h=>?_;cases h;exact (.p _)
   refine cP h Za (.cons zb (.cons (Ap (Qo (f4_ (f2_ (.cons (.nil _) (.cons (.nil _) p1)))))) .nil)) fun v9 h=>?_;cases h;exact (.p _)
  apply iU h<;>intro h
  ·refine cP h Za (.cons zb (.cons (Ap (Qo (f4_ (f2_ (.cons (.nil _) (.cons (.nil _) p1)))))) .nil)) fun v12 h=>?_;cases h;exact (.p _)
  refine cP h Za (.cons zb (.cons (Ap (Qo (f4_ (f2_ (.cons (.nil _) (.cons (.nil _) p1)))))) .nil)) fun v14 h=>?_;cases h;exact (.p _)
 apply iU h<;>intro h
 ·apply iU h<;>intro h
  ·refine cP h Za (.cons zb (.cons (Ap (Qo (f2_ (f1_ (.cons (.nil _) (f2_ (.cons (.nil _) (.cons (.nil _) p1)))))))) .nil)) fun v18 h=>?_;cases h;exact (.p _)
  refine cP h Za (.cons zb (.cons (Ap (Qo (f2_ (f1_ (.cons (.nil _) (f2_ (.cons (.nil _) (.cons (.nil _) p1)))))))) .nil)) fun v20 h=>?_;cases h;exact (.p _)
 apply iU h<;>intro h
 ·refine cP h Za (.cons zb (.cons (Ap (Qo (f2_ (f1_ (.cons (.nil _) (f2_ (.cons (.nil _) (.cons (.nil _) p1)))))))) .nil)) fun v23 h=>?_;cases h;exact (.p _)
 refine cP h Za (.cons zb (.cons (Ap (Qo (f2_ (f1_ (.cons (.nil _) (f2_ (.cons (.nil _) (.cons (.nil _) p1)))))))) .nil)) fun v25 h=>?_;cases h;exact (.p _)
def Q5q (_N:Nat) (code:Int):Option Bool:=
 cond (Q4 .leq 0 code)
 (some (Q4 .leq code 5))
 (some false)
theorem Qeo {N} {code} {r} (h:Q5q N code=some r):pU 391 [.int .i64 code] (.bool r):=by
 refine Q0 Zm3 ?_;unfold Q5q at h;rw [cX] at h;exact iB h
def Q2q (N:Nat) (version:Int) (p:Q1):Option Bool:=
 cond (Q4 .eql version 4)
 (cond (Q4 .gtr (wrap .i64 (((Q7 Q6.cells p.Props).length:Int)+((Q7 Q6.cells p.Will.Props).length:Int))) 0)
 (some false)
 (cond (Q4 .eql p.Kind 2)
 ((Q13 N p.Kind p.Code).bind fun v4=>
 (Q5q N p.Code).bind fun v6=>
 cond v6
 (cond (Q4 .eql p.Code 0)
 (some true)
 (some (!p.Session)))
 (some false))
 (cond (Q1l .eql p.Client [])
 (cond (!p.Clean)
 (some false)
 (cond p.HasPass
 (cond (!p.HasUser)
 (some false)
 (cond (Q4 .geq p.KeepAlive 0)
 (cond (Q4 .lss p.KeepAlive 65536)
 (cond (Q4 .geq p.Will.QoS 0)
 (some (Q4 .leq p.Will.QoS 2))
 (some false))
 (some false))
 (some false)))
 (cond (Q4 .geq p.KeepAlive 0)
 (cond (Q4 .lss p.KeepAlive 65536)
 (cond (Q4 .geq p.Will.QoS 0)
 (some (Q4 .leq p.Will.QoS 2))
 (some false))
 (some false))
 (some false))))
 (cond p.HasPass
 (cond (!p.HasUser)
 (some false)
 (cond (Q4 .geq p.KeepAlive 0)
 (cond (Q4 .lss p.KeepAlive 65536)
 (cond (Q4 .geq p.Will.QoS 0)
 (some (Q4 .leq p.Will.QoS 2))
 (some false))
 (some false))
 (some false)))
 (cond (Q4 .geq p.KeepAlive 0)
 (cond (Q4 .lss p.KeepAlive 65536)
 (cond (Q4 .geq p.Will.QoS 0)
 (some (Q4 .leq p.Will.QoS 2))
 (some false))
 (some false))
 (some false))))))
 (cond (Q4 .eql p.Kind 2)
 ((Q13 N p.Kind p.Code).bind fun v29=>
 cond v29
 (cond (Q4 .eql p.Code 0)
 (some true)
 (some (!p.Session)))
 (some false))
 (cond (Q4 .geq p.KeepAlive 0)
 (cond (Q4 .lss p.KeepAlive 65536)
 (cond (Q4 .geq p.Will.QoS 0)
 (some (Q4 .leq p.Will.QoS 2))
 (some false))
 (some false))
 (some false)))
theorem Qdp {N} {version} {p} {r} (h:Q2q N version p=some r):pU 329 [.int .i64 version,.agg (Q1.cells p)] (.bool r):=by
 refine Q0 Zde ?_;unfold Q2q at h;rw [cX,cY] at h;refine ifO h (fun hc1 h=>?_) (fun hc1 h=>?_)
 ·refine iL h fun h=>?_;apply iU h<;>intro h
  ·refine cP h Q34 p2 fun v4 h=>?_;refine ifT hc1 ?_;refine cP h Qeo p1 fun v6 h=>?_;refine iR h fun h=>?_;exact iB h
  refine ifT hc1 ?_;apply iU h<;>intro h
  ·refine iL h fun h=>?_;apply iU h<;>intro h
   ·refine iL h fun h=>?_;refine iR h fun h=>?_;refine iR h fun h=>?_;exact iB h
   refine iR h fun h=>?_;refine iR h fun h=>?_;exact iB h
  apply iU h<;>intro h
  ·refine iL h fun h=>?_;refine iR h fun h=>?_;refine iR h fun h=>?_;exact iB h
  refine iR h fun h=>?_;refine iR h fun h=>?_;exact iB h
 apply iU h<;>intro h
 ·refine cP h Q34 p2 fun v29 h=>?_;refine ifF hc1 ?_;refine iR h fun h=>?_;exact iB h
 refine ifF hc1 ?_;refine iR h fun h=>?_;refine iR h fun h=>?_;exact iB h
def Q6x (N:Nat) (s_0:List UInt8):Option Bool:=
 cond (Q1l .neq s_0 [])
 ((Yw N s_0).bind fun v2=>
 some v2)
 (some false)
theorem Qcg {N} {s_0} {r} (h:Q6x N s_0=some r):pU 132 [.str s_0] (.bool r):=by
 refine Q0 Zpj ?_;unfold Q6x at h;rw [cY] at h;refine iR h fun h=>?_;refine cP h Xj p1 fun v2 h=>?_;cases h;exact (.p _)
def Zk (_N:Nat) (s_0:List UInt8) (c:Int):Option Int:=
 some (Qea s_0 (UInt8.ofNat (Int.toNat c)) 0:Int)
theorem Vh {N} {s_0} {c} {r} (h:Zk N s_0 c=some r):pU 408 [.str s_0,.int .u8 c] (.int .i64 r):=by
 refine Q0 Zf7 ?_;unfold Zk at h;cases h;exact (.p _)
def Q2c (N:Nat) (s_0:List UInt8) (c:Int):Option Int:=
 (Zk N s_0 c).bind fun v1=>
 some v1
theorem Q65 {N} {s_0} {c} {r} (h:Q2c N s_0 c=some r):pU 361 [.str s_0,.int .u8 c] (.int .i64 r):=by
 refine Q0 Zg4 ?_;unfold Q2c at h;refine cP h Vh p2 fun v1 h=>?_;cases h;exact (.p _)
def Vw (_N:Nat) (r_0:Int):Option Bool:=
 cond (Q4 .leq 0 r_0)
 (cond (Q4 .lss r_0 55296)
 (some true)
 (cond (Q4 .lss 57343 r_0)
 (cond (Q4 .leq r_0 1114111)
 (some true)
 (some false))
 (some false)))
 (cond (Q4 .lss 57343 r_0)
 (cond (Q4 .leq r_0 1114111)
 (some true)
 (some false))
 (some false))
theorem Q7t {N} {r_0} {r} (h:Vw N r_0=some r):pU 362 [.int .i32 r_0] (.bool r):=by
 refine Q0 Zp1 ?_;unfold Vw at h;rw [cX] at h;apply iU h<;>intro h
 ·refine iL h fun h=>?_;refine iR h fun h=>?_;exact iB h
 refine iR h fun h=>?_;exact iB h
def Yj (N:Nat) (s_0:List UInt8):Nat->Nat->Option Int
 | 0,_=>none
 | n+1,pos13=>
  cond (Nat.blt pos13 s_0.length)
  (cond (Q4 .eql (((Qg6 s_0 pos13).1:Nat):Int) 65533)
  (some ((pos13:Nat):Int))
  (Yj N s_0 n (pos13+(Qg6 s_0 pos13).2)))
  (some (-1))
def J5 (N:Nat) (s_0:List UInt8) (r_1:Int) (v82:Int):Nat->Int->Option Int
 | 0,_=>none
 | n+1,j98=>
  cond (Q4 .lss j98 (((Utf8.encode r_1).data.toList).length:Int))
  ((idx s_0 (wrap .i64 ((wrap .i64 ((wrap .i64 ((((Utf8.encode r_1).data.toList).length:Int) - 1))+(wrap .i64 (v82+1)))) - j98))).bind fun b100=>
  (idx ((Utf8.encode r_1).data.toList) (wrap .i64 ((wrap .i64 ((((Utf8.encode r_1).data.toList).length:Int) - 1)) - j98))).bind fun b102=>
  cond (Q4 .neq (b100.toNat:Int) (b102.toNat:Int))
  (none)
  (J5 N s_0 r_1 v82 n (wrap .i64 (j98+1))))
  (some (wrap .i64 ((wrap .i64 ((wrap .i64 ((((Utf8.encode r_1).data.toList).length:Int) - 1))+(wrap .i64 (v82+1)))) - (wrap .i64 ((((Utf8.encode r_1).data.toList).length:Int) - 1)))))
def J3 (N:Nat) (s_0:List UInt8) (r_1:Int):Nat->Int->Option Int
 | 0,_=>none
 | n+1,j118=>
  cond (Q4 .lss j118 (((Utf8.encode r_1).data.toList).length:Int))
  ((idx s_0 (wrap .i64 ((wrap .i64 ((((Utf8.encode r_1).data.toList).length:Int) - 1)) - j118))).bind fun b120=>
  (idx ((Utf8.encode r_1).data.toList) (wrap .i64 ((wrap .i64 ((((Utf8.encode r_1).data.toList).length:Int) - 1)) - j118))).bind fun b122=>
  cond (Q4 .neq (b120.toNat:Int) (b122.toNat:Int))
  (none)
  (J3 N s_0 r_1 n (wrap .i64 (j118+1))))
  (some (wrap .i64 ((wrap .i64 ((((Utf8.encode r_1).data.toList).length:Int) - 1)) - (wrap .i64 ((((Utf8.encode r_1).data.toList).length:Int) - 1)))))
def Va (N:Nat) (s_0:List UInt8) (r_1:Int):Nat->Option Int
 | 0=>none
 | n+1=>
  cond (Q4 .lss (wrap .i64 ((((Utf8.encode r_1).data.toList).length:Int) - 1)) (s_0.length:Int))
  ((idx s_0 (wrap .i64 ((((Utf8.encode r_1).data.toList).length:Int) - 1))).bind fun b73=>
  (idx ((Utf8.encode r_1).data.toList) (wrap .i64 ((((Utf8.encode r_1).data.toList).length:Int) - 1))).bind fun b75=>
  cond (Q4 .neq (b73.toNat:Int) (b75.toNat:Int))
  (cond (decide (0≤(wrap .i64 ((wrap .i64 ((((Utf8.encode r_1).data.toList).length:Int) - 1))+1)))) (cond (Nat.ble (wrap .i64 ((wrap .i64 ((((Utf8.encode r_1).data.toList).length:Int) - 1))+1)).toNat s_0.length&&Nat.ble s_0.length s_0.length) ((idx ((Utf8.encode r_1).data.toList) (wrap .i64 ((((Utf8.encode r_1).data.toList).length:Int) - 1))).bind fun b80=>
  (Q2c N ((s_0.take s_0.length).drop ((wrap .i64 ((wrap .i64 ((((Utf8.encode r_1).data.toList).length:Int) - 1))+1)).toNat)) (b80.toNat:Int)).bind fun v82=>
  cond (Q4 .lss v82 0)
  (some (-1))
  (J5 N s_0 r_1 v82 N 1)) none) none)
  (J3 N s_0 r_1 N 1))
  (some (-1))
def Uw (N:Nat) (s_0:List UInt8) (r_1:Int) (s2:Bool):Option Int:=
 cond s2
 ((Q2c N s_0 (wrap .u8 r_1)).bind fun v5=>
 some v5)
 (cond (Q4 .eql r_1 65533)
 (Yj N s_0 N 0)
 ((Vw N r_1).bind fun v16=>
 cond (!v16)
 (some (-1))
 (Va N s_0 r_1 N)))
def Q2i (N:Nat) (s_0:List UInt8) (r_1:Int):Option Int:=
 cond (Q4 .leq 0 r_1)
 (Uw N s_0 r_1 (Q4 .lss r_1 128))
 (Uw N s_0 r_1 false)
theorem Qbg {N} {s_0} {r_1} {r} (h:Q2i N s_0 r_1=some r):pU 285 [.str s_0,.int .i32 r_1] (.int .i64 r):=by
 refine Q0 Za5 ?_;unfold Q2i at h;rw [cX] at h;refine jrH (r:=r) (σ:=Bool) (fun s2=>(iS s_0 :: .p (.int .i32 r_1)::a16 (a16 (a16 (a16 (a16 (a16 (a16 (a16 (a16 (a8 (a4 (a2 (.p (.bool s2)::a16 (a8 (a2 ([]))))))))))))))):List AV)) (fun s2=>Uw N s_0 r_1 s2) ?_ ?_
 ·apply iU h<;>intro h
  ·show Exists _;exact ⟨((Qmr .lss r_1 128)),h,(fun i=>i),Yf⟩
  show Exists _;exact ⟨(false),h,(fun i=>i),Yf⟩
 rintro s2 h
 unfold Uw at h;rw [cX] at h;apply iU h<;>intro h
 ·refine cP h Q65 p2 fun v5 h=>?_;cases h;exact (.p _)
 apply iU h<;>intro h
 ·refine lpA (τ:=Nat) (fun _=>(a16 (a16 (a16 (a16 (a16 (a16 (a16 (a16 (a16 (a16 (a8 (a4 (a2 (.any :: .ptr 0 0::a8 (a2 (.any :: []))))))))))))))):List AV)) (fun pos13=>(.strIter s_0 pos13 :: []:List AObj)) (fun n1 pos13=>Yj N s_0 n1 pos13) (0) h fun n1 pos13 h=>?_
  first | rw [Yj] at h | simp only [Yj] at h
  rw [cX] at h;refine iR h fun h=>?_;refine iL h fun h=>?_;show Exists _;exact ⟨(n1,(pos13+(Qg6 s_0 pos13).2)),h,Le _,(fun i=>i),Yf⟩
 refine cP h Q7t p1 fun v16 h=>?_;refine iL h fun h=>?_;refine lpH (τ:=Unit) (fun _=>(iS s_0::a4 (a2 (iS ((Utf8.encode r_1).data.toList) :: .p (.int .i64 (wrap .i64 ((((Utf8.encode r_1).data.toList).length:Int) - 1))) :: .p (.int .i64 (wrap .i64 ((((Utf8.encode r_1).data.toList).length:Int) - 1)))::a16 (a16 (a16 (a16 (a16 (a16 (a16 (a16 (a16 (a16 (a16 (.any :: []))))))))))))):List AV)) (fun n2 ⟨⟩=>Va N s_0 r_1 n2) () h fun n2 ⟨⟩ h=>?_
 first | rw [Va] at h | simp only [Va] at h
 rw [cX] at h;refine iR h fun h=>?_;refine Ql ?_;refine xB h fun b73 h=>?_;refine xB h fun b75 h=>?_;apply iU h<;>intro h
 ·refine Ql ?_;refine kU h fun h=>?_;refine kU h fun h=>?_;refine xB h fun b80 h=>?_;refine cD h Q65 p2 fun v82 h=>?_;refine iL h fun h=>?_;refine lpH (τ:=Int) (fun j98=>(iS s_0::a4 (a2 (iS ((Utf8.encode r_1).data.toList) :: .p (.int .i64 (wrap .i64 ((((Utf8.encode r_1).data.toList).length:Int) - 1))) :: .p (.int .i64 (wrap .i64 ((wrap .i64 ((((Utf8.encode r_1).data.toList).length:Int) - 1))+(wrap .i64 (v82+1))))) :: .any :: .any::iI j98::a16 (a16 (a16 (a16 (a16 (a16 (a16 (a16 (a16 (a16 (a8 (a4 (a2 ([]))))))))))))))):List AV)) (fun n3 j98=>J5 N s_0 r_1 v82 n3 j98) (1) h fun n3 j98 h=>?_
  first | rw [J5] at h | simp only [J5] at h
  rw [cX] at h;refine iR h fun h=>?_;refine Ql ?_;refine xB h fun b100 h=>?_;refine xB h fun b102 h=>?_;apply iU h<;>intro h
  ·first | (cases h;done) | (simp [Qcn] at h;done)
  show Exists _;exact ⟨(n3,(wrap .i64 (j98+1))),h,Le _,(fun i=>i),Yf⟩
 refine lpH (τ:=Int) (fun j118=>(iS s_0::a4 (a2 (iS ((Utf8.encode r_1).data.toList) :: .p (.int .i64 (wrap .i64 ((((Utf8.encode r_1).data.toList).length:Int) - 1))) :: .p (.int .i64 (wrap .i64 ((((Utf8.encode r_1).data.toList).length:Int) - 1))) :: .any :: .any::iI j118::a16 (a16 (a16 (a16 (a16 (a16 (a16 (a16 (a16 (a16 (a8 (a4 (a2 ([]))))))))))))))):List AV)) (fun n4 j118=>J3 N s_0 r_1 n4 j118) (1) h fun n4 j118 h=>?_
 first | rw [J3] at h | simp only [J3] at h
 rw [cX] at h;refine iR h fun h=>?_;refine Ql ?_;refine xB h fun b120 h=>?_;refine xB h fun b122 h=>?_;apply iU h<;>intro h
 ·first | (cases h;done) | (simp [Qcn] at h;done)
 show Exists _;exact ⟨(n4,(wrap .i64 (j118+1))),h,Le _,(fun i=>i),Yf⟩
def Q0j (_N:Nat) (bufLen:Int):Option Bool:=
 some (Q4 .gtr bufLen 8)
theorem Q6v {N} {bufLen} {r} (h:Q0j N bufLen=some r):pU 286 [.int .i64 bufLen] (.bool r):=by
 refine Q0 Zfk ?_;unfold Q0j at h;rw [cX] at h;cases h;exact (.p _)
def Wg (N:Nat) (s_0:List UInt8):Nat->Int->Option Int
 | 0,_=>none
 | n+1,i20=>
  cond (Q4 .lss i20 (s_0.length:Int))
  ((idx s_0 i20).bind fun b22=>
  cond (decide (0≤(b22.toNat:Int))&&decide ((b22.toNat:Int)<((256:Nat):Int))) ((idx ([false,false,false,false,false,false,false,false,false,false,false,false,false,false,false,false,false,false,false,false,false,false,false,false,false,false,false,false,false,false,false,false,false,false,false,true,false,false,false,false,false,false,false,true,false,false,false,false,false,false,false,false,false,false,false,false,false,false,false,false,false,false,false,false,false,false,false,false,false,false,false,false,false,false,false,false,false,false,false,false,false,false,false,false,false,false,false,false,false,false,false,false,false,false,false,false,false,false,false,false,false,false,false,false,false,false,false,false,false,false,false,false,false,false,false,false,false,false,false,false,false,false,false,false,false,false,false,false,false,false,false,false,false,false,false,false,false,false,false,false,false,false,false,false,false,false,false,false,false,false,false,false,false,false,false,false,false,false,false,false,false,false,false,false,false,false,false,false,false,false,false,false,false,false,false,false,false,false,false,false,false,false,false,false,false,false,false,false,false,false,false,false,false,false,false,false,false,false,false,false,false,false,false,false,false,false,false,false,false,false,false,false,false,false,false,false,false,false,false,false,false,false,false,false,false,false,false,false,false,false,false,false,false,false,false,false,false,false,false,false,false,false,false,false,false,false,false,false,false,false,false,false,false,false,false,false]:List Bool) (b22.toNat:Int)).bind fun y24=>
  cond y24
  (some i20)
  (Wg N s_0 n (wrap .i64 (i20+1)))) none)
  (some (-1))
def We (N:Nat) (s_0:List UInt8):Nat->Nat->Option Int
 | 0,_=>none
 | n+1,pos37=>
  cond (Nat.blt pos37 s_0.length)
  ((Q2i N [43,35] (((Qg6 s_0 pos37).1:Nat):Int)).bind fun v39=>
  cond (Q4 .geq v39 0)
  (some ((pos37:Nat):Int))
  (We N s_0 n (pos37+(Qg6 s_0 pos37).2)))
  (some (-1))
def Q14 (N:Nat) (s_0:List UInt8):Option Int:=
 cond (Q1l .eql [43,35] [])
 (some (-1))
 ((Q0j N (s_0.length:Int)).bind fun v2=>
 cond v2
 (Wg N s_0 N 0)
 (We N s_0 N 0))
theorem Q9r {N} {s_0} {r} (h:Q14 N s_0=some r):pU 196 [.str s_0,.str [43,35]] (.int .i64 r):=by
 refine Q0 Zg0 ?_;unfold Q14 at h;rw [cY] at h;refine iL h fun h=>?_;refine dF ?_;refine cP h Q6v p1 fun v2 h=>?_;apply iU h<;>intro h
 ·refine Zx Zcc ?_;refine Qdr 4 ?_;refine dT ?_;refine dF ?_;refine dT ?_;refine dF ?_;refine dF ?_;refine lpH (τ:=Int) (fun i20=>(iS s_0::a4 (.any :: .ptr 1 0 :: .any::iI i20::a16 (a16 (a8 (a4 (a2 ([])))))):List AV)) (fun n0 i20=>Wg N s_0 n0 i20) (0) h fun n0 i20 h=>?_
  first | rw [Wg] at h | simp only [Wg] at h
  rw [cX] at h;refine iR h fun h=>?_;refine xB h fun b22 h=>?_;refine Zx Zck ?_;refine kU h fun h=>?_;obtain ⟨y24,hy25,h⟩:=Q3o h
  refine Qau (c:=cB) (e:=1) (fun _=>rfl) hy25 (off:=0) (by decide) (by first | omega | (simp only [Q7g,orI,Qoz,Q2x,Qbp,Qdb];omega)) ?_
  refine iL h fun h=>?_;show Exists _;exact ⟨(n0,(wrap .i64 (i20+1))),h,Le _,(fun i=>i),Yf⟩
 refine lpA (τ:=Nat) (fun _=>(.any :: .p (.str [43,35])::a16 (a16 (a8 (a2 (.any :: .ptr 0 0::a8 (.any :: []))))):List AV)) (fun pos37=>(.strIter s_0 pos37 :: []:List AObj)) (fun n1 pos37=>We N s_0 n1 pos37) (0) h fun n1 pos37 h=>?_
 first | rw [We] at h | simp only [We] at h
 rw [cX] at h;refine iR h fun h=>?_;refine cP h Qbg p2 fun v39 h=>?_;refine iL h fun h=>?_;show Exists _;exact ⟨(n1,(pos37+(Qg6 s_0 pos37).2)),h,Le _,(fun i=>i),Yf⟩
def X9 (N:Nat) (s_0:List UInt8):Option Bool:=
 (Q14 N s_0).bind fun v1=>
 some (Q4 .geq v1 0)
theorem Q0a {N} {s_0} {r} (h:X9 N s_0=some r):pU 133 [.str s_0,.str [43,35]] (.bool r):=by
 refine Q0 Zgj ?_;unfold X9 at h;rw [cX] at h;refine cP h Q9r p2 fun v1 h=>?_;cases h;exact (.p _)
def Jx (N:Nat) (s_0:List UInt8):Option Bool:=
 (Q6x N s_0).bind fun v1=>
 cond v1
 ((X9 N s_0).bind fun v4=>
 some (!v4))
 (some false)
theorem Q0h {N} {s_0} {r} (h:Jx N s_0=some r):pU 75 [.str s_0] (.bool r):=by
 refine Q0 k75 ?_;unfold Jx at h;refine cP h Qcg p1 fun v1 h=>?_;refine iR h fun h=>?_;refine cP h Q0a p2 fun v4 h=>?_;cases h;exact (.p _)
def Q4n (_N:Nat) (n_0:Int):Option Bool:=
 cond (Q4 .geq n_0 0)
 (some (Q4 .leq n_0 268435455))
 (some false)
theorem Qcq {N} {n_0} {r} (h:Q4n N n_0=some r):pU 163 [.int .i64 n_0] (.bool r):=by
 refine Q0 Zlm ?_;unfold Q4n at h;rw [cX] at h;exact iB h
def J9 (N:Nat):Nat->Int->(List Int)->Option ((List UInt8)×Int)
 | 0,_,_=>none
 | n+1,n9,l10=>
  cond (Q4 .geq n9 128)
  (cond (Nat.ble ((l10.length+1+4096) * 1) 17592186044416) (J9 N n (wrap .i64 ((n9:Int).tdiv 128)) (l10 ++ [(orI .u8 (wrap .u8 ((n9:Int).tmod 128)) 128)])) none)
  (cond (Nat.ble ((l10.length+1+4096) * 1) 17592186044416) (some (((l10 ++ [(wrap .u8 n9)]).map fun n=>UInt8.ofNat n.toNat),0)) none)
def Ji (N:Nat) (n_0:Int):Option ((List UInt8)×Int):=
 (Q4n N n_0).bind fun v1=>
 cond (!v1)
 (some ([],2))
 (J9 N N n_0 [])
theorem Q3n {N} {n_0} {r} (h:Ji N n_0=some r):pU 105 [.int .i64 n_0] (.tuple [.str r.1,.int .i64 r.2]):=by
 refine Q0 Zge ?_;unfold Ji at h;refine cP h Qcq p1 fun v1 h=>?_;refine iL2 h fun h=>?_;refine lpA (τ:=Int×(List Int)) (fun ⟨n9,l10⟩=>(iI n9::a2 (.any :: .slice 1 0 0 l10.length::a16 (a4 ([]))):List AV)) (fun ⟨_,l10⟩=>(.cells (Q0g (cI .u8) l10) :: []:List AObj)) (fun n0 ⟨n9,l10⟩=>J9 N n0 n9 l10) (n_0,[]) h fun n0 ⟨n9,l10⟩ h=>?_
 first | rw [J9] at h | simp only [J9] at h
 rw [cX] at h;apply iU h<;>intro h
 ·obtain ⟨hk12,h⟩:=Q48 h;refine Q0r (Zl (c:=(cI .u8)) (e:=1) (fun _=>rfl) sd hk12) ?_;refine Jv (c:=(cI .u8)) [(orI .u8 (wrap .u8 ((n9:Int).tmod 128)) 128)] rfl ?_;show Exists _;exact ⟨(n0,(wrap .i64 ((n9:Int).tdiv 128)),(l10 ++ [(orI .u8 (wrap .u8 ((n9:Int).tmod 128)) 128)])),h,Le _,(rho [2]),Yf⟩
 obtain ⟨hk13,h⟩:=Q48 h;refine Q0r (Zl (c:=(cI .u8)) (e:=1) (fun _=>rfl) sd hk13) ?_;refine Jv (c:=(cI .u8)) [(wrap .u8 n9)] rfl ?_;refine Qjr (l:=(l10 ++ [(wrap .u8 n9)])) (n:=(l10.length+1)) sd ?_;obtain rfl:=Qi h;exact u2
def F_prop_rules_tab:List (Int×Qu) := [(1,(⟨1,65544,0,1⟩:Qu)),(2,(⟨3,65544,0,4294967295⟩:Qu)),(3,(⟨5,65544,0,0⟩:Qu)),(8,(⟨5,65544,0,0⟩:Qu)),(9,(⟨6,65544,0,0⟩:Qu)),(11,(⟨4,264,1,268435455⟩:Qu)),(17,(⟨3,16390,0,4294967295⟩:Qu)),(18,(⟨5,4,0,0⟩:Qu)),(19,(⟨2,4,0,65535⟩:Qu)),(21,(⟨5,32774,0,0⟩:Qu)),(22,(⟨6,32774,0,0⟩:Qu)),(23,(⟨1,2,0,1⟩:Qu)),(24,(⟨3,65536,0,4294967295⟩:Qu)),(25,(⟨1,2,0,1⟩:Qu)),(26,(⟨5,4,0,0⟩:Qu)),(28,(⟨5,16388,0,0⟩:Qu)),(31,(⟨5,51956,0,0⟩:Qu)),(33,(⟨2,6,1,65535⟩:Qu)),(34,(⟨2,6,0,65535⟩:Qu)),(35,(⟨2,8,1,65535⟩:Qu)),(36,(⟨1,4,0,1⟩:Qu)),(37,(⟨1,4,0,1⟩:Qu)),(38,(⟨7,118782,0,0⟩:Qu)),(39,(⟨3,6,1,4294967295⟩:Qu)),(40,(⟨1,4,0,1⟩:Qu)),(41,(⟨1,4,0,1⟩:Qu)),(42,(⟨1,4,0,1⟩:Qu))]
theorem Qjl:pU 203 [] (.pmap (Z6l (fun v => .agg (Qu.cells v)) F_prop_rules_tab)):=Uu Qbb (N:=2000) (d:=60) (by kernel_rfl)
def Q30 (_N:Nat) (r_0:Qu) (p:Q6):Option Int:=
 cond (Q1l .neq p.Text [])
 (some 2)
 (cond (Q1l .neq p.Value [])
 (some 2)
 (cond (Q4 .lss p.N' r_0.least)
 (some 9)
 (cond (Q4 .gtr p.N' r_0.most)
 (some 9)
 (some 0))))
theorem Qc3 {N} {r_0} {p} {r} (h:Q30 N r_0 p=some r):pU 296 [.agg (Qu.cells r_0),.agg (Q6.cells p)] (.int .i64 r):=by
 refine Q0 Zbt ?_;unfold Q30 at h;rw [cX,cY] at h;refine iL h fun h=>?_;refine iL h fun h=>?_;refine iL h fun h=>?_;exact iB h
def Q0k (_N:Nat) (r_0:Qu) (kind:Int):Option Bool:=
 cond (Q4 .geq kind 1)
 (cond (Q4 .leq kind 16)
 (cond (decide (0≤(wrap .u64 kind))) (some (Q4 .eql (Q7g .i64 (Qdb .i64 r_0.kinds (wrap .u64 kind)) 1) 1)) none)
 (some false))
 (some false)
theorem Qf4 {N} {r_0} {kind} {r} (h:Q0k N r_0 kind=some r):pU 295 [.agg (Qu.cells r_0),.int .i64 kind] (.bool r):=by
 refine Q0 Zex ?_;unfold Q0k at h;rw [cX] at h;refine iR h fun h=>?_;refine iR h fun h=>?_;refine kU h fun h=>?_;cases h;exact (.p _)
def Q22 (N:Nat) (r_0:Qu) (kind:Int) (p:Q6):Option Int:=
 (Q0k N r_0 kind).bind fun v1=>
 cond (!v1)
 (some 9)
 (cond (Q4 .leq r_0.shape 4)
 ((Q30 N r_0 p).bind fun v5=>
 some v5)
 (cond (Q4 .neq p.N' 0)
 (some 2)
 (cond (Q1l .neq p.Value [])
 (cond (Q4 .neq r_0.shape 7)
 (some 2)
 (cond (Q4 .eql r_0.shape 6)
 (cond (Q4 .gtr (p.Text.length:Int) 65535)
 (some 2)
 (some 0))
 ((Yw N p.Text).bind fun v12=>
 cond (!v12)
 (some 6)
 ((Yw N p.Value).bind fun v15=>
 cond (!v15)
 (some 6)
 (cond (Q4 .eql p.ID 8)
 ((Jx N p.Text).bind fun v19=>
 cond (!v19)
 (some 9)
 (some 0))
 (some 0))))))
 (cond (Q4 .eql r_0.shape 6)
 (cond (Q4 .gtr (p.Text.length:Int) 65535)
 (some 2)
 (some 0))
 ((Yw N p.Text).bind fun v24=>
 cond (!v24)
 (some 6)
 ((Yw N p.Value).bind fun v27=>
 cond (!v27)
 (some 6)
 (cond (Q4 .eql p.ID 8)
 ((Jx N p.Text).bind fun v31=>
 cond (!v31)
 (some 9)
 (some 0))
 (some 0))))))))
theorem Qc9 {N} {r_0} {kind} {p} {r} (h:Q22 N r_0 kind p=some r):pU 204 [.agg (Qu.cells r_0),.int .i64 kind,.agg (Q6.cells p)] (.int .i64 r):=by
 refine Q0 Zcq ?_;unfold Q22 at h;rw [cX,cY] at h;refine cP h Qf4 (.cons q4 p1) fun v1 h=>?_;refine iL h fun h=>?_;apply iU h<;>intro h
 ·refine cP h Qc3 (.cons q4 (.cons q4 .nil)) fun v5 h=>?_;cases h;exact (.p _)
 refine iL h fun h=>?_;apply iU h<;>intro h
 ·refine iL h fun h=>?_;apply iU h<;>intro h
  ·exact iB h
  refine cP h Xj p1 fun v12 h=>?_;refine iL h fun h=>?_;refine cP h Xj p1 fun v15 h=>?_;refine iL h fun h=>?_;refine iR h fun h=>?_;refine cP h Q0h p1 fun v19 h=>?_;exact iB h
 apply iU h<;>intro h
 ·exact iB h
 refine cP h Xj p1 fun v24 h=>?_;refine iL h fun h=>?_;refine cP h Xj p1 fun v27 h=>?_;refine iL h fun h=>?_;refine iR h fun h=>?_;refine cP h Q0h p1 fun v31 h=>?_;exact iB h
def Q8j (_N:Nat) (kind:Int) (id:Int):Option Bool:=
 cond (Q4 .eql id 38)
 (some true)
 (cond (Q4 .eql id 11)
 (some (Q4 .eql kind 3))
 (some false))
theorem Qbx {N} {kind} {id} {r} (h:Q8j N kind id=some r):pU 297 [.int .i64 kind,.int .i64 id] (.bool r):=by
 refine Q0 Zcb ?_;unfold Q8j at h;rw [cX] at h;refine iL h fun h=>?_;exact iB h
def Q03 (N:Nat) (n_0:Int) (size:Int):Nat->Int->(List Int)->Option (List UInt8)
 | 0,_,_=>none
 | n+1,s14,l15=>
  cond (Q4 .lss s14 (ifB (decide (16<size)) 16 size))
  (cond (Q4 .lss s14 8)
  (cond (decide (0≤(wrap .u64 (wrap .i64 (8 * s14))))) ((idx (l15:List Int) (wrap .i64 ((wrap .i64 ((ifB (decide (16<size)) 16 size) - 1)) - s14))).bind fun y19=>
  Q03 N n_0 size n (wrap .i64 (s14+1)) ((l15:List Int).set (Int.toNat (wrap .i64 ((wrap .i64 ((ifB (decide (16<size)) 16 size) - 1)) - s14))) (wrap .u8 (Qdb .u64 n_0 (wrap .u64 (wrap .i64 (8 * s14))))))) none)
  (Q03 N n_0 size n (wrap .i64 (s14+1)) l15))
  (some (l15.map fun n=>UInt8.ofNat n.toNat))
def X4 (N:Nat) (n_0:Int) (size:Int):Option (List UInt8):=
 cond (Q4 .leq size 0)
 (some [])
 (cond (decide (0≤(ifB (decide (16<size)) 16 size))&&decide ((ifB (decide (16<size)) 16 size)≤(ifB (decide (16<size)) 16 size))&&decide ((ifB (decide (16<size)) 16 size) * 1≤1099511627776)) (Q03 N n_0 size N 0 (List.replicate ((ifB (decide (16<size)) 16 size):Int).toNat (0:Int))) none)
theorem Yt {N} {n_0} {size} {r} (h:X4 N n_0 size=some r):pU 106 [.int .u64 n_0,.int .i64 size] (.str r):=by
 refine Q0 Zip ?_;unfold X4 at h;rw [cX] at h;refine iL h fun h=>?_;refine kU h fun h=>?_;refine Z3j (c:=(cI .u8)) (0:Int) rfl ?_;refine lpC (τ:=Int×(List Int)) (fun ⟨s14,l15⟩=>(iW n_0 :: .p (.int .i64 (ifB (decide (16<size)) 16 size))::a2 (.any :: .slice 1 1 0 l15.length::a4 (a2 (.any :: .p (.int .i64 (ifB (decide (16<size)) 16 size))::iI s14::a16 (a2 (.any :: []))))):List AV)) (fun ⟨_,l15⟩=>(.dead :: .cells (Q0g (cI .u8) l15) :: []:List AObj)) (fun n0 ⟨s14,l15⟩=>Q03 N n_0 size n0 s14 l15) (0,(List.replicate ((ifB (decide (16<size)) 16 size):Int).toNat (0:Int))) h (rho [0,0]) Yf fun n0 ⟨s14,l15⟩ h=>?_
 first | rw [Q03] at h | simp only [Q03] at h
 rw [cX] at h;apply iU h<;>intro h
 ·apply iU h<;>intro h
  ·refine kU h fun h=>?_;obtain ⟨y19,hy20,h⟩:=Q3o h;refine Q0r (Q8x hy20 sd) ?_;refine Q0r (Q59 (c:=(cI .u8)) (e:=1) (fun _=>rfl) hy20 (off:=0) (by omega) rfl (by decide)) ?_
   refine Q60 (c:=(cI .u8)) (e:=1) (fun _=>rfl) hy20 (wrap .u8 (Qdb .u64 n_0 (wrap .u64 (wrap .i64 (8 * s14))))) (off:=0) (by first | omega | (simp only [Q7g,orI,Qoz,Q2x,Qbp,Qdb];omega)) rfl (by simp) ?_
   show Exists _;exact ⟨(n0,(wrap .i64 (s14+1)),((l15:List Int).set (Int.toNat (wrap .i64 ((wrap .i64 ((ifB (decide (16<size)) 16 size) - 1)) - s14))) (wrap .u8 (Qdb .u64 n_0 (wrap .u64 (wrap .i64 (8 * s14))))))),h,Le _,(fun i=>i),Yf⟩
  show Exists _;exact ⟨(n0,(wrap .i64 (s14+1)),l15),h,Le _,(fun i=>i),Yf⟩
 refine Qjr (l:=l15) (n:=l15.length) sd ?_;cases h;exact (.p _)
def Gd (N:Nat) (s_0:List UInt8):Option (List UInt8):=
 (X4 N (wrap .u64 (s_0.length:Int)) 2).bind fun v1=>
 cond (Nat.ble (v1.length+s_0.length) 4611686018427387904) (some (v1++s_0)) none
theorem Q7v {N} {s_0} {r} (h:Gd N s_0=some r):pU 341 [.str s_0] (.str r):=by
 refine Q0 Zfl ?_;unfold Gd at h;refine cP h Yt p2 fun v1 h=>?_;refine kU h fun h=>?_;cases h;exact (.p _)
def Gf (N:Nat) (s_0:List UInt8):Option ((List UInt8)×Int):=
 cond (Q4 .gtr (s_0.length:Int) 65535)
 (some ([],2))
 ((Gd N s_0).bind fun v2=>
 some (v2,0))
theorem Q4g {N} {s_0} {r} (h:Gf N s_0=some r):pU 298 [.str s_0] (.tuple [.str r.1,.int .i64 r.2]):=by
 refine Q0 Zdd ?_;unfold Gf at h;rw [cX] at h;refine iL2 h fun h=>?_;refine cP h Q7v p1 fun v2 h=>?_;obtain rfl:=Qi h;exact u2
def Q1e (N:Nat) (shape:Int) (p:Q6):Option (List UInt8):=
 cond (Q4 .eql shape 1)
 ((X4 N (wrap .u64 p.N') shape).bind fun v2=>
 some v2)
 (cond (Q4 .eql shape 2)
 ((X4 N (wrap .u64 p.N') shape).bind fun v5=>
 some v5)
 (cond (Q4 .eql shape 3)
 ((X4 N (wrap .u64 p.N') 4).bind fun v8=>
 some v8)
 (cond (Q4 .eql shape 4)
 ((Ji N (wrap .i64 p.N')).bind fun v11=>
 some v11.1)
 ((Gf N p.Text).bind fun v13=>
 cond (Q4 .neq shape 7)
 (some v13.1)
 ((Gf N p.Value).bind fun v16=>
 cond (Nat.ble (v13.1.length+v16.1.length) 4611686018427387904) (some (v13.1++v16.1)) none)))))
theorem Q5t {N} {shape} {p} {r} (h:Q1e N shape p=some r):pU 206 [.int .i64 shape,.agg (Q6.cells p)] (.str r):=by
 refine Q0 Zj0 ?_;unfold Q1e at h;rw [cX] at h;refine ifO h (fun hc1 h=>?_) (fun hc1 h=>?_)
 ·refine ifT hc1 ?_;refine cP h Yt p2 fun v2 h=>?_;cases h;exact (.p _)
 apply iU h<;>intro h
 ·refine cP h Yt p2 fun v5 h=>?_;cases h;exact (.p _)
 apply iU h<;>intro h
 ·refine cP h Yt p2 fun v8 h=>?_;cases h;exact (.p _)
 apply iU h<;>intro h
 ·refine cP h Q3n p1 fun v11 h=>?_;cases h;exact (.p _)
 refine cP h Q4g p1 fun v13 h=>?_;refine iL h fun h=>?_;refine cP h Q4g p1 fun v16 h=>?_;refine kU h fun h=>?_;cases h;exact (.p _)
def Zz (N:Nat) (kind:Int) (l:List Q6):Nat->Int->(List Int)->(List Int)->Option ((List UInt8)×Int)
 | 0,_,_,_=>none
 | n+1,s107,l108,l109=>
  cond (Q4 .lss s107 ((Q7 Q6.cells l).length:Int))
  ((idx l s107).bind fun y111=>
  optC (Q5h F_prop_rules_tab y111.ID) (fun m113=>
  (Q22 N m113 kind y111).bind fun v115=>
  cond (Q4 .neq v115 0)
  (some ([],v115))
  (cond (decide (0≤y111.ID)&&decide (y111.ID<((64:Nat):Int))) ((idx (l108:List Int) y111.ID).bind fun y118=>
  (idx (l108:List Int) y111.ID).bind fun y121=>
  (idx (((l108:List Int).set (Int.toNat y111.ID) (wrap .i64 (y118+1))):List Int) y111.ID).bind fun y123=>
  cond (Q4 .gtr y123 1)
  ((Q8j N kind y111.ID).bind fun v126=>
  cond (!v126)
  (some ([],9))
  (cond (Nat.ble ((l109.length+1+4096) * 1) 17592186044416) ((Q1e N m113.shape y111).bind fun v130=>
  cond (Nat.beq v130.length 0)
  (Zz N kind l n (wrap .i64 (s107+1)) ((l108:List Int).set (Int.toNat y111.ID) (wrap .i64 (y118+1))) (l109 ++ [(wrap .u8 y111.ID)]))
  (cond (Nat.ble (((l109.length+1)+v130.length+4096) * 1) 17592186044416) (Zz N kind l n (wrap .i64 (s107+1)) ((l108:List Int).set (Int.toNat y111.ID) (wrap .i64 (y118+1))) ((l109 ++ [(wrap .u8 y111.ID)])++(v130.map fun b=>(b.toNat:Int)))) none)) none))
  (cond (Nat.ble ((l109.length+1+4096) * 1) 17592186044416) ((Q1e N m113.shape y111).bind fun v135=>
  cond (Nat.beq v135.length 0)
  (Zz N kind l n (wrap .i64 (s107+1)) ((l108:List Int).set (Int.toNat y111.ID) (wrap .i64 (y118+1))) (l109 ++ [(wrap .u8 y111.ID)]))
  (cond (Nat.ble (((l109.length+1)+v135.length+4096) * 1) 17592186044416) (Zz N kind l n (wrap .i64 (s107+1)) ((l108:List Int).set (Int.toNat y111.ID) (wrap .i64 (y118+1))) ((l109 ++ [(wrap .u8 y111.ID)])++(v135.map fun b=>(b.toNat:Int)))) none)) none)) none))
  ((Q22 N (⟨0,0,0,0⟩:Qu) kind y111).bind fun v139=>
  cond (Q4 .neq v139 0)
  (some ([],v139))
  (cond (decide (0≤y111.ID)&&decide (y111.ID<((64:Nat):Int))) ((idx (l108:List Int) y111.ID).bind fun y142=>
  (idx (l108:List Int) y111.ID).bind fun y145=>
  (idx (((l108:List Int).set (Int.toNat y111.ID) (wrap .i64 (y142+1))):List Int) y111.ID).bind fun y147=>
  cond (Q4 .gtr y147 1)
  ((Q8j N kind y111.ID).bind fun v150=>
  cond (!v150)
  (some ([],9))
  (cond (Nat.ble ((l109.length+1+4096) * 1) 17592186044416) ((Q1e N 0 y111).bind fun v154=>
  cond (Nat.beq v154.length 0)
  (Zz N kind l n (wrap .i64 (s107+1)) ((l108:List Int).set (Int.toNat y111.ID) (wrap .i64 (y142+1))) (l109 ++ [(wrap .u8 y111.ID)]))
  (cond (Nat.ble (((l109.length+1)+v154.length+4096) * 1) 17592186044416) (Zz N kind l n (wrap .i64 (s107+1)) ((l108:List Int).set (Int.toNat y111.ID) (wrap .i64 (y142+1))) ((l109 ++ [(wrap .u8 y111.ID)])++(v154.map fun b=>(b.toNat:Int)))) none)) none))
  (cond (Nat.ble ((l109.length+1+4096) * 1) 17592186044416) ((Q1e N 0 y111).bind fun v159=>
  cond (Nat.beq v159.length 0)
  (Zz N kind l n (wrap .i64 (s107+1)) ((l108:List Int).set (Int.toNat y111.ID) (wrap .i64 (y142+1))) (l109 ++ [(wrap .u8 y111.ID)]))
  (cond (Nat.ble (((l109.length+1)+v159.length+4096) * 1) 17592186044416) (Zz N kind l n (wrap .i64 (s107+1)) ((l108:List Int).set (Int.toNat y111.ID) (wrap .i64 (y142+1))) ((l109 ++ [(wrap .u8 y111.ID)])++(v159.map fun b=>(b.toNat:Int)))) none)) none)) none)))
  ((idx (l108:List Int) 22).bind fun y163=>
  cond (Q4 .gtr y163 0)
  ((idx (l108:List Int) 21).bind fun y166=>
  cond (Q4 .eql y166 0)
  (some ([],9))
  ((Ji N (l109.length:Int)).bind fun v169=>
  cond (Q4 .neq v169.2 0)
  (some ([],4))
  (cond (Nat.ble (v169.1.length+(l109.map fun n=>UInt8.ofNat n.toNat).length) 4611686018427387904) (some ((v169.1++(l109.map fun n=>UInt8.ofNat n.toNat)),0)) none)))
  ((Ji N (l109.length:Int)).bind fun v173=>
  cond (Q4 .neq v173.2 0)
  (some ([],4))
  (cond (Nat.ble (v173.1.length+(l109.map fun n=>UInt8.ofNat n.toNat).length) 4611686018427387904) (some ((v173.1++(l109.map fun n=>UInt8.ofNat n.toNat)),0)) none)))
def V8 (N:Nat) (kind:Int) (l:List Q6):Option ((List UInt8)×Int):=
 cond (Q4 .gtr ((Q7 Q6.cells l).length:Int) 1000)
 (some ([],4))
 (Zz N kind l N 0 [0,0,0,0,0,0,0,0,0,0,0,0,0,0,0,0,0,0,0,0,0,0,0,0,0,0,0,0,0,0,0,0,0,0,0,0,0,0,0,0,0,0,0,0,0,0,0,0,0,0,0,0,0,0,0,0,0,0,0,0,0,0,0,0] [])
theorem Jq {N} {kind} {l} {r} (h:V8 N kind l=some r):pU 137 [.int .i64 kind,.slice 4 (Q7 Q6.cells l)] (.tuple [.str r.1,.int .i64 r.2]):=by
 refine Q0 Zq1 ?_;unfold V8 at h;rw [cX] at h;refine iL2 h fun h=>?_;refine Q6r Qjl .nil ?_;refine lpA (τ:=Int×(List Int)×(List Int)) (fun ⟨s107,_,l109⟩=>(iI kind::a4 (.any :: .p (.pmap (Z6l (fun v => .agg (Qu.cells v)) F_prop_rules_tab)) :: .ptr 0 0 :: .slice 1 1 0 l109.length::a8 (a2 (.p (.slice 4 (Q7 Q6.cells l))::iI ((Q7 Q6.cells l).length:Int)::iI s107::a16 (a16 (a8 (a2 (.any :: []))))))):List AV)) (fun ⟨_,l108,l109⟩=>(.cells (Q0g (cI .i64) l108) :: .cells (Q0g (cI .u8) l109) :: []:List AObj)) (fun n0 ⟨s107,l108,l109⟩=>Zz N kind l n0 s107 l108 l109) (0,[0,0,0,0,0,0,0,0,0,0,0,0,0,0,0,0,0,0,0,0,0,0,0,0,0,0,0,0,0,0,0,0,0,0,0,0,0,0,0,0,0,0,0,0,0,0,0,0,0,0,0,0,0,0,0,0,0,0,0,0,0,0,0,0],[]) h fun n0 ⟨s107,l108,l109⟩ h=>?_
 first | rw [Zz] at h | simp only [Zz] at h
 rw [cX] at h;apply iU h<;>intro h
 ·refine xR h fun y111 h=>?_;refine Z0x h (fun m113 hm114 h=>?_) (fun hm114 h=>?_)
  ·refine cP h Qc9 (.cons q4 (.cons (.p _) (.cons q4 .nil))) fun v115 h=>?_;refine iL2 h fun h=>?_;refine Zx Z8g ?_;refine Ql ?_;obtain ⟨hk120,h⟩:=Q48 h;refine Q0r hk120 ?_;obtain ⟨y118,hy119,h⟩:=Q3o h
   refine Qau (c:=(cI .i64)) (e:=1) (fun _=>rfl) hy119 (off:=0) (by decide) (by first | omega | (simp only [Q7g,orI,Qoz,Q2x,Qbp,Qdb];omega)) ?_
   refine Q0r hk120 ?_;obtain ⟨y121,hy122,h⟩:=Q3o h;refine Q0r (Q59 (c:=(cI .i64)) (e:=1) (fun _=>rfl) hy122 (off:=0) (by omega) rfl (by decide)) ?_
   refine Q60 (c:=(cI .i64)) (e:=1) (fun _=>rfl) hy122 (wrap .i64 (y118+1)) (off:=0) (by first | omega | (simp only [Q7g,orI,Qoz,Q2x,Qbp,Qdb];omega)) rfl (by simp) ?_
   refine Q0r hk120 ?_;obtain ⟨y123,hy124,h⟩:=Q3o h
   refine Qau (c:=(cI .i64)) (e:=1) (fun _=>rfl) hy124 (off:=0) (by decide) (by first | omega | (simp only [Q7g,orI,Qoz,Q2x,Qbp,Qdb];omega)) ?_
   apply iU h<;>intro h
   ·refine cP h Qbx p2 fun v126 h=>?_;refine iL2 h fun h=>?_;refine Ql ?_;obtain ⟨hk129,h⟩:=Q48 h;refine Q0r (Zl (c:=(cI .u8)) (e:=1) (fun _=>rfl) sd hk129) ?_;refine Jv (c:=(cI .u8)) [(wrap .u8 y111.ID)] rfl ?_;refine cD h Q5t (.cons (.p _) (.cons q4 .nil)) fun v130 h=>?_;refine Qj0 (b:=v130) ?_;apply iU h<;>intro h
    ·show Exists _;exact ⟨(n0,(wrap .i64 (s107+1)),((l108:List Int).set (Int.toNat y111.ID) (wrap .i64 (y118+1))),(l109 ++ [(wrap .u8 y111.ID)])),h,Le _,(rho [0,5]),Yf⟩
    obtain ⟨hk133,h⟩:=Q48 h;refine Q0r (Zl (c:=(cI .u8)) (e:=1) (l:=(l109 ++ [(wrap .u8 y111.ID)])) (fun _=>rfl) sd hk133) ?_;refine Jv (c:=(cI .u8)) (l:=(l109 ++ [(wrap .u8 y111.ID)])) (v130.map fun b=>(b.toNat:Int)) rfl ?_;show Exists _;exact ⟨(n0,(wrap .i64 (s107+1)),((l108:List Int).set (Int.toNat y111.ID) (wrap .i64 (y118+1))),((l109 ++ [(wrap .u8 y111.ID)])++(v130.map fun b=>(b.toNat:Int)))),h,Le _,(rho [0,6]),Yf⟩
   refine Ql ?_;obtain ⟨hk134,h⟩:=Q48 h;refine Q0r (Zl (c:=(cI .u8)) (e:=1) (fun _=>rfl) sd hk134) ?_;refine Jv (c:=(cI .u8)) [(wrap .u8 y111.ID)] rfl ?_;refine cD h Q5t (.cons (.p _) (.cons q4 .nil)) fun v135 h=>?_;refine Qj0 (b:=v135) ?_;apply iU h<;>intro h
   ·show Exists _;exact ⟨(n0,(wrap .i64 (s107+1)),((l108:List Int).set (Int.toNat y111.ID) (wrap .i64 (y118+1))),(l109 ++ [(wrap .u8 y111.ID)])),h,Le _,(rho [0,5]),Yf⟩
   obtain ⟨hk138,h⟩:=Q48 h;refine Q0r (Zl (c:=(cI .u8)) (e:=1) (l:=(l109 ++ [(wrap .u8 y111.ID)])) (fun _=>rfl) sd hk138) ?_;refine Jv (c:=(cI .u8)) (l:=(l109 ++ [(wrap .u8 y111.ID)])) (v135.map fun b=>(b.toNat:Int)) rfl ?_;show Exists _;exact ⟨(n0,(wrap .i64 (s107+1)),((l108:List Int).set (Int.toNat y111.ID) (wrap .i64 (y118+1))),((l109 ++ [(wrap .u8 y111.ID)])++(v135.map fun b=>(b.toNat:Int)))),h,Le _,(rho [0,6]),Yf⟩
  refine cP h Qc9 (.cons q4 (.cons (.p _) (.cons q4 .nil))) fun v139 h=>?_;refine iL2 h fun h=>?_;refine Zx Z8g ?_;refine Ql ?_;obtain ⟨hk144,h⟩:=Q48 h;refine Q0r hk144 ?_;obtain ⟨y142,hy143,h⟩:=Q3o h
  refine Qau (c:=(cI .i64)) (e:=1) (fun _=>rfl) hy143 (off:=0) (by decide) (by first | omega | (simp only [Q7g,orI,Qoz,Q2x,Qbp,Qdb];omega)) ?_
  refine Q0r hk144 ?_;obtain ⟨y145,hy146,h⟩:=Q3o h;refine Q0r (Q59 (c:=(cI .i64)) (e:=1) (fun _=>rfl) hy146 (off:=0) (by omega) rfl (by decide)) ?_
  refine Q60 (c:=(cI .i64)) (e:=1) (fun _=>rfl) hy146 (wrap .i64 (y142+1)) (off:=0) (by first | omega | (simp only [Q7g,orI,Qoz,Q2x,Qbp,Qdb];omega)) rfl (by simp) ?_
  refine Q0r hk144 ?_;obtain ⟨y147,hy148,h⟩:=Q3o h
  refine Qau (c:=(cI .i64)) (e:=1) (fun _=>rfl) hy148 (off:=0) (by decide) (by first | omega | (simp only [Q7g,orI,Qoz,Q2x,Qbp,Qdb];omega)) ?_
  apply iU h<;>intro h
  ·refine cP h Qbx p2 fun v150 h=>?_;refine iL2 h fun h=>?_;refine Ql ?_;obtain ⟨hk153,h⟩:=Q48 h;refine Q0r (Zl (c:=(cI .u8)) (e:=1) (fun _=>rfl) sd hk153) ?_;refine Jv (c:=(cI .u8)) [(wrap .u8 y111.ID)] rfl ?_;refine cD h Q5t (.cons (.p _) (.cons q4 .nil)) fun v154 h=>?_;refine Qj0 (b:=v154) ?_;apply iU h<;>intro h
   ·show Exists _;exact ⟨(n0,(wrap .i64 (s107+1)),((l108:List Int).set (Int.toNat y111.ID) (wrap .i64 (y142+1))),(l109 ++ [(wrap .u8 y111.ID)])),h,Le _,(rho [0,5]),Yf⟩
   obtain ⟨hk157,h⟩:=Q48 h;refine Q0r (Zl (c:=(cI .u8)) (e:=1) (l:=(l109 ++ [(wrap .u8 y111.ID)])) (fun _=>rfl) sd hk157) ?_;refine Jv (c:=(cI .u8)) (l:=(l109 ++ [(wrap .u8 y111.ID)])) (v154.map fun b=>(b.toNat:Int)) rfl ?_;show Exists _;exact ⟨(n0,(wrap .i64 (s107+1)),((l108:List Int).set (Int.toNat y111.ID) (wrap .i64 (y142+1))),((l109 ++ [(wrap .u8 y111.ID)])++(v154.map fun b=>(b.toNat:Int)))),h,Le _,(rho [0,6]),Yf⟩
  refine Ql ?_;obtain ⟨hk158,h⟩:=Q48 h;refine Q0r (Zl (c:=(cI .u8)) (e:=1) (fun _=>rfl) sd hk158) ?_;refine Jv (c:=(cI .u8)) [(wrap .u8 y111.ID)] rfl ?_;refine cD h Q5t (.cons (.p _) (.cons q4 .nil)) fun v159 h=>?_;refine Qj0 (b:=v159) ?_;apply iU h<;>intro h
  ·show Exists _;exact ⟨(n0,(wrap .i64 (s107+1)),((l108:List Int).set (Int.toNat y111.ID) (wrap .i64 (y142+1))),(l109 ++ [(wrap .u8 y111.ID)])),h,Le _,(rho [0,5]),Yf⟩
  obtain ⟨hk162,h⟩:=Q48 h;refine Q0r (Zl (c:=(cI .u8)) (e:=1) (l:=(l109 ++ [(wrap .u8 y111.ID)])) (fun _=>rfl) sd hk162) ?_;refine Jv (c:=(cI .u8)) (l:=(l109 ++ [(wrap .u8 y111.ID)])) (v159.map fun b=>(b.toNat:Int)) rfl ?_;show Exists _;exact ⟨(n0,(wrap .i64 (s107+1)),((l108:List Int).set (Int.toNat y111.ID) (wrap .i64 (y142+1))),((l109 ++ [(wrap .u8 y111.ID)])++(v159.map fun b=>(b.toNat:Int)))),h,Le _,(rho [0,6]),Yf⟩
 refine Zx Zpr ?_;obtain ⟨y163,hy164,h⟩:=Q3o h;refine Qau (c:=(cI .i64)) (e:=1) (n:=1) (j:=22) (fun _=>rfl) hy164 (off:=0) (by decide) rfl ?_;apply iU h<;>intro h
 ·obtain ⟨y166,hy167,h⟩:=Q3o h;refine Qau (c:=(cI .i64)) (e:=1) (n:=1) (j:=21) (fun _=>rfl) hy167 (off:=0) (by decide) rfl ?_;refine iL2 h fun h=>?_;refine cP h Q3n p1 fun v169 h=>?_;refine iL2 h fun h=>?_;refine Qjr (l:=l109) (n:=l109.length) sd ?_;refine kU h fun h=>?_;obtain rfl:=Qi h;exact u2
 refine cP h Q3n p1 fun v173 h=>?_;refine iL2 h fun h=>?_;refine Qjr (l:=l109) (n:=l109.length) sd ?_;refine kU h fun h=>?_;obtain rfl:=Qi h;exact u2
def X6 (N:Nat) (kind:Int) (l:List Q6):Option Int:=
 (V8 N kind l).bind fun v1=>
 some v1.2
theorem Xw {N} {kind} {l} {r} (h:X6 N kind l=some r):pU 88 [.int .i64 kind,.slice 4 (Q7 Q6.cells l)] (.int .i64 r):=by
 refine Q0 k88 ?_;unfold X6 at h;refine cP h Jq p2 fun v1 h=>?_;cases h;exact (.p _)
def Q3j (N:Nat) (version:Int) (p:Q1):Option Int:=
 (Q7j N version).bind fun v1=>
 cond (!v1)
 (some 2)
 ((Q6k N p.Kind).bind fun v4=>
 cond (!v4)
 (some 2)
 ((Q3b N p).bind fun v7=>
 cond (!v7)
 (some 2)
 ((Q2q N version p).bind fun v10=>
 cond (!v10)
 (some 2)
 ((Yw N p.Client).bind fun v13=>
 cond (!v13)
 (some 6)
 ((Yw N p.User).bind fun v16=>
 cond (!v16)
 (some 6)
 (cond p.HasWill
 ((Jx N p.Will.Topic).bind fun v20=>
 cond (!v20)
 (some 10)
 (cond (Q4 .gtr (p.Will.Payload.length:Int) 65535)
 (some 2)
 (cond (Q4 .gtr (p.Pass.length:Int) 65535)
 (some 2)
 ((X6 N p.Kind p.Props).bind fun v25=>
 cond (Q4 .neq v25 0)
 (some v25)
 ((X6 N 16 p.Will.Props).bind fun v28=>
 some v28)))))
 (cond (Q4 .gtr (p.Will.Payload.length:Int) 65535)
 (some 2)
 (cond (Q4 .gtr (p.Pass.length:Int) 65535)
 (some 2)
 ((X6 N p.Kind p.Props).bind fun v32=>
 cond (Q4 .neq v32 0)
 (some v32)
 ((X6 N 16 p.Will.Props).bind fun v35=>
 some v35))))))))))
theorem Qft {N} {version} {p} {r} (h:Q3j N version p=some r):pU 240 [.int .i64 version,.agg (Q1.cells p)] (.int .i64 r):=by
 refine Q0 Zc9 ?_;unfold Q3j at h;rw [cX] at h;refine cP h Qf9 p1 fun v1 h=>?_;refine iL h fun h=>?_;refine cP h Qgp p1 fun v4 h=>?_;refine iL h fun h=>?_;refine cP h Qf3 zc fun v7 h=>?_;refine iL h fun h=>?_;refine cP h Qdp zd fun v10 h=>?_;refine iL h fun h=>?_;refine cP h Xj p1 fun v13 h=>?_;refine iL h fun h=>?_;refine cP h Xj p1 fun v16 h=>?_;refine iL h fun h=>?_;apply iU h<;>intro h
 ·refine cP h Q0h p1 fun v20 h=>?_;refine iL h fun h=>?_;refine iL h fun h=>?_;refine iL h fun h=>?_;refine cP h Xw p2 fun v25 h=>?_;refine iL h fun h=>?_;refine cP h Xw p2 fun v28 h=>?_;cases h;exact (.p _)
 refine iL h fun h=>?_;refine iL h fun h=>?_;refine cP h Xw p2 fun v32 h=>?_;refine iL h fun h=>?_;refine cP h Xw p2 fun v35 h=>?_;cases h;exact (.p _)
def Q2t (N:Nat) (version:Int) (kind:Int) (l:List Q6):Option (List UInt8):=
 cond (Q4 .eql version 4)
 (some [])
 ((V8 N kind l).bind fun v2=>
 some v2.1)
theorem Qa0 {N} {version} {kind} {l} {r} (h:Q2t N version kind l=some r):pU 241 [.int .i64 version,.int .i64 kind,.slice 4 (Q7 Q6.cells l)] (.str r):=by
 refine Q0 Zie ?_;unfold Q2t at h;rw [cX] at h;refine iL h fun h=>?_;refine cP h Jq p2 fun v2 h=>?_;cases h;exact (.p _)
def Wb (N:Nat) (parts:List (List UInt8)):Option (List UInt8):=
 (Q8w N parts []).bind fun v1=>
 some v1
theorem Wq {N} {parts} {r} (h:Wb N parts=some r):pU 242 [.slice 1 (Q7 cS parts)] (.str r):=by
 refine Q0 Zif ?_;unfold Wb at h;refine cP h Qh1 p2 fun v1 h=>?_;cases h;exact (.p _)
def Qj (N:Nat) (p:Q1):Nat->Int->Int->Option Int
 | 0,_,_=>none
 | n+1,out9,s10=>
  cond (Q4 .lss s10 5)
  ((idx ([(⟨p.Clean,2⟩:Q78),(⟨p.HasWill,4⟩:Q78),(⟨p.Will.Retain,32⟩:Q78),(⟨p.HasPass,64⟩:Q78),(⟨p.HasUser,128⟩:Q78)]:List Q78) s10).bind fun y12=>
  cond y12.is
  (Qj N p n (orI .i64 out9 y12.bit) (wrap .i64 (s10+1)))
  (Qj N p n out9 (wrap .i64 (s10+1))))
  (some out9)
def Q38 (N:Nat) (p:Q1):Option Int:=
 cond (Q4 .neq p.Kind 1)
 (some 0)
 (Qj N p N (Qbp .i64 (Q7g .i64 p.Will.QoS 3) 3) 0)
theorem Qed {N} {p} {r} (h:Q38 N p=some r):pU 243 [.agg (Q1.cells p)] (.int .i64 r):=by
 refine Q0 Zi8 ?_;unfold Q38 at h;rw [cX] at h;refine iL h fun h=>?_;refine lpH (τ:=Int×Int) (fun ⟨out9,s10⟩=>(a2 (.any::iI out9::a16 (a8 (a2 (.slice 2 1 0 5::iI 5::iI s10::a8 (a2 (.any :: [])))))):List AV)) (fun n0 ⟨out9,s10⟩=>Qj N p n0 out9 s10) ((Qbp .i64 (Q7g .i64 p.Will.QoS 3) 3),0) h fun n0 ⟨out9,s10⟩ h=>?_
 first | rw [Qj] at h | simp only [Qj] at h
 rw [cX] at h;refine iR h fun h=>?_;obtain ⟨y12,hy13,h⟩:=Q3o h;refine Q0r (Q8x hy13 sd) ?_
 refine Qau (c:=Q78.cells) (e:=2) (fun _=>rfl) hy13 (off:=0) (by decide) (by first | omega | (simp only [Q7g,orI,Qoz,Q2x,Qbp,Qdb];omega)) ?_
 apply iU h<;>intro h
 ·show Exists _;exact ⟨(n0,(orI .i64 out9 y12.bit),(wrap .i64 (s10+1))),h,Le _,(fun i=>i),Yf⟩
 show Exists _;exact ⟨(n0,out9,(wrap .i64 (s10+1))),h,Le _,(fun i=>i),Yf⟩
def Xy (N:Nat) (s_0:List UInt8):Option (List UInt8):=
 (Gf N s_0).bind fun v1=>
 some v1.1
theorem Wx {N} {s_0} {r} (h:Xy N s_0=some r):pU 244 [.str s_0] (.str r):=by
 refine Q0 Zgr ?_;unfold Xy at h;refine cP h Q4g p1 fun v1 h=>?_;cases h;exact (.p _)
def Q2s (N:Nat) (version:Int) (p:Q1):Option ((List UInt8)×Int):=
 (Q3j N version p).bind fun v1=>
 cond (Q4 .neq v1 0)
 (some ([],v1))
 ((Q2t N version p.Kind p.Props).bind fun v4=>
 cond (Q4 .eql p.Kind 2)
 (cond p.Session
 ((X4 N (wrap .u64 p.Code) 1).bind fun v8=>
 (Wb N [[1],v8,v4]).bind fun v10=>
 some (v10,0))
 ((X4 N (wrap .u64 p.Code) 1).bind fun v12=>
 (Wb N [[0],v12,v4]).bind fun v14=>
 some (v14,0)))
 ((X4 N (wrap .u64 version) 1).bind fun v16=>
 (Q38 N p).bind fun v18=>
 (X4 N (wrap .u64 v18) 1).bind fun v20=>
 (X4 N (wrap .u64 p.KeepAlive) 2).bind fun v22=>
 (Xy N p.Client).bind fun v24=>
 (Wb N [[0,4,77,81,84,84],v16,v20,v22,v4,v24]).bind fun v26=>
 cond p.HasWill
 ((Q2t N version 16 p.Will.Props).bind fun v29=>
 (Xy N p.Will.Topic).bind fun v31=>
 (Xy N p.Will.Payload).bind fun v33=>
 (Wb N [v26,v29,v31,v33]).bind fun v35=>
 cond p.HasUser
 ((Xy N p.User).bind fun v38=>
 (Wb N [v35,v38]).bind fun v40=>
 cond p.HasPass
 ((Xy N p.Pass).bind fun v43=>
 (Wb N [v40,v43]).bind fun v45=>
 some (v45,0))
 (some (v40,0)))
 (cond p.HasPass
 ((Xy N p.Pass).bind fun v48=>
 (Wb N [v35,v48]).bind fun v50=>
 some (v50,0))
 (some (v35,0))))
 (cond p.HasUser
 ((Xy N p.User).bind fun v53=>
 (Wb N [v26,v53]).bind fun v55=>
 cond p.HasPass
 ((Xy N p.Pass).bind fun v58=>
 (Wb N [v55,v58]).bind fun v60=>
 some (v60,0))
 (some (v55,0)))
 (cond p.HasPass
 ((Xy N p.Pass).bind fun v63=>
 (Wb N [v26,v63]).bind fun v65=>
 some (v65,0))
 (some (v26,0))))))
theorem Qgg {N} {version} {p} {r} (h:Q2s N version p=some r):pU 166 [.int .i64 version,.agg (Q1.cells p)] (.tuple [.str r.1,.int .i64 r.2]):=by
 refine Q0 Zhq ?_;unfold Q2s at h;rw [cX] at h;refine cP h Qft zd fun v1 h=>?_;refine iL2 h fun h=>?_;refine cP h Qa0 p3 fun v4 h=>?_;apply iU h<;>intro h
 ·apply iU h<;>intro h
  ·refine cP h Yt p2 fun v8 h=>?_;refine cK h Wq (.cons (frz_own (c:=cS) (l:=([[1],v8,v4]:List (List UInt8))) (fun _=>rfl) rfl trivial sd) .nil) fun v10 h=>?_;obtain rfl:=Qi h;exact u2
  refine cP h Yt p2 fun v12 h=>?_;refine cK h Wq (.cons (frz_own (c:=cS) (l:=([[0],v12,v4]:List (List UInt8))) (fun _=>rfl) rfl trivial sd) .nil) fun v14 h=>?_;obtain rfl:=Qi h;exact u2
 refine Ql ?_;refine cD h Yt p2 fun v16 h=>?_;refine cD h Qed zc fun v18 h=>?_;refine cD h Yt p2 fun v20 h=>?_;refine cD h Yt p2 fun v22 h=>?_;refine cD h Wx p1 fun v24 h=>?_;refine dL h Wq [1] (.cons (frz_own (c:=cS) (l:=([[0,4,77,81,84,84],v16,v20,v22,v4,v24]:List (List UInt8))) (fun _=>rfl) rfl (by simp) sd) .nil) fun v26 h=>?_;apply iU h<;>intro h
 ·refine Ql ?_;refine cD h Qa0 p3 fun v29 h=>?_;refine cD h Wx p1 fun v31 h=>?_;refine cD h Wx p1 fun v33 h=>?_;refine dL h Wq [2] (.cons (frz_own (c:=cS) (l:=([v26,v29,v31,v33]:List (List UInt8))) (fun _=>rfl) rfl (by simp) sd) .nil) fun v35 h=>?_;apply iU h<;>intro h
  ·refine cP h Wx p1 fun v38 h=>?_;refine cK h Wq (.cons (frz_own (c:=cS) (l:=([v35,v38]:List (List UInt8))) (fun _=>rfl) rfl trivial sd) .nil) fun v40 h=>?_;refine iR2 h fun h=>?_;refine cP h Wx p1 fun v43 h=>?_;refine cK h Wq (.cons (frz_own (c:=cS) (l:=([v40,v43]:List (List UInt8))) (fun _=>rfl) rfl trivial sd) .nil) fun v45 h=>?_;obtain rfl:=Qi h;exact u2
  refine iR2 h fun h=>?_;refine cP h Wx p1 fun v48 h=>?_;refine cK h Wq (.cons (frz_own (c:=cS) (l:=([v35,v48]:List (List UInt8))) (fun _=>rfl) rfl trivial sd) .nil) fun v50 h=>?_;obtain rfl:=Qi h;exact u2
 apply iU h<;>intro h
 ·refine cP h Wx p1 fun v53 h=>?_;refine cK h Wq (.cons (frz_own (c:=cS) (l:=([v26,v53]:List (List UInt8))) (fun _=>rfl) rfl trivial sd) .nil) fun v55 h=>?_;refine iR2 h fun h=>?_;refine cP h Wx p1 fun v58 h=>?_;refine cK h Wq (.cons (frz_own (c:=cS) (l:=([v55,v58]:List (List UInt8))) (fun _=>rfl) rfl trivial sd) .nil) fun v60 h=>?_;obtain rfl:=Qi h;exact u2
 refine iR2 h fun h=>?_;refine cP h Wx p1 fun v63 h=>?_;refine cK h Wq (.cons (frz_own (c:=cS) (l:=([v26,v63]:List (List UInt8))) (fun _=>rfl) rfl trivial sd) .nil) fun v65 h=>?_;obtain rfl:=Qi h;exact u2
def Q1p (N:Nat) (d:Zr):Option ((List UInt8)×Int):=
 (Q2s N d.version d.p).bind fun v1=>
 some (v1.1,v1.2)
theorem Q5e {N} {d} {r} (h:Q1p N d=some r):pU 111 [.agg (Zr.cells d)] (.tuple [.str r.1,.int .i64 r.2]):=by
 refine Q0 Zq4 ?_;unfold Q1p at h;refine cP h Qgg zd fun v1 h=>?_;obtain rfl:=Qi h;exact u2
def Q86 (_N:Nat) (version:Int) (kind:Int):Option Bool:=
 cond (Q4 .eql version 4)
 (cond (Q4 .geq kind 4)
 (some (Q4 .leq kind 7))
 (some false))
 (cond (Q4 .eql version 5)
 (cond (Q4 .geq kind 4)
 (some (Q4 .leq kind 7))
 (some false))
 (some false))
theorem Qkc {N} {version} {kind} {r} (h:Q86 N version kind=some r):pU 254 [.int .i64 version,.int .i64 kind] (.bool r):=by
 refine Q0 Ze7 ?_;unfold Q86 at h;rw [cX] at h;apply iU h<;>intro h
 ·exact iB h
 refine iR h fun h=>?_;exact iB h
def Q87 (N:Nat) (version:Int) (p:Q1):Option Int:=
 (Q86 N version p.Kind).bind fun v1=>
 cond (!v1)
 (some 2)
 (cond (Q4 .leq p.ID 0)
 (some 2)
 (cond (Q4 .geq p.ID 65536)
 (some 2)
 ((Q13 N p.Kind p.Code).bind fun v6=>
 cond (!v6)
 (some 2)
 (cond (Q4 .eql version 4)
 (cond (Q4 .neq p.Code 0)
 (some 2)
 (cond (Q4 .neq ((Q7 Q6.cells p.Props).length:Int) 0)
 (some 2)
 ((Z5 N p (⟨p.Kind,false,false,0,p.ID,[],[],false,0,[],false,[],false,[],false,(⟨[],[],0,false,[]⟩:Y5),false,p.Code,[],[],p.Props⟩:Q1)).bind fun v12=>
 cond (!v12)
 (some 2)
 ((X6 N p.Kind p.Props).bind fun v15=>
 some v15))))
 ((Z5 N p (⟨p.Kind,false,false,0,p.ID,[],[],false,0,[],false,[],false,[],false,(⟨[],[],0,false,[]⟩:Y5),false,p.Code,[],[],p.Props⟩:Q1)).bind fun v17=>
 cond (!v17)
 (some 2)
 ((X6 N p.Kind p.Props).bind fun v20=>
 some v20))))))
theorem Qki {N} {version} {p} {r} (h:Q87 N version p=some r):pU 253 [.int .i64 version,.agg (Q1.cells p)] (.int .i64 r):=by
 refine Q0 Zp0 ?_;unfold Q87 at h;rw [cX] at h;refine cP h Qkc p2 fun v1 h=>?_;refine iL h fun h=>?_;refine iL h fun h=>?_;refine iL h fun h=>?_;refine cP h Q34 p2 fun v6 h=>?_;refine iL h fun h=>?_;apply iU h<;>intro h
 ·refine iL h fun h=>?_;refine iL h fun h=>?_;refine cP h Za (.cons zb (.cons (Ap (Qo (f2_ (f1_ (.cons (.nil _) (f2_ (.cons (.nil _) (.cons (.nil _) p1)))))))) .nil)) fun v12 h=>?_;refine iL h fun h=>?_;refine cP h Xw p2 fun v15 h=>?_;cases h;exact (.p _)
 refine cP h Za (.cons zb (.cons (Ap (Qo (f2_ (f1_ (.cons (.nil _) (f2_ (.cons (.nil _) (.cons (.nil _) p1)))))))) .nil)) fun v17 h=>?_;refine iL h fun h=>?_;refine cP h Xw p2 fun v20 h=>?_;cases h;exact (.p _)
def Q7e (N:Nat) (version:Int) (p:Q1):Option ((List UInt8)×Int):=
 (Q87 N version p).bind fun v1=>
 cond (Q4 .neq v1 0)
 (some ([],v1))
 ((X4 N (wrap .u64 p.ID) 2).bind fun v4=>
 cond (Q4 .neq p.Code 0)
 ((X4 N (wrap .u64 p.Code) 1).bind fun v7=>
 cond (Nat.ble (v4.length+v7.length) 4611686018427387904) (cond (Q4 .neq ((Q7 Q6.cells p.Props).length:Int) 0)
 ((V8 N p.Kind p.Props).bind fun v11=>
 cond (Nat.ble ((v4++v7).length+v11.1.length) 4611686018427387904) (some (((v4++v7)++v11.1),0)) none)
 (some ((v4++v7),0))) none)
 (cond (Q4 .neq ((Q7 Q6.cells p.Props).length:Int) 0)
 ((X4 N (wrap .u64 p.Code) 1).bind fun v15=>
 cond (Nat.ble (v4.length+v15.length) 4611686018427387904) ((V8 N p.Kind p.Props).bind fun v18=>
 cond (Nat.ble ((v4++v15).length+v18.1.length) 4611686018427387904) (some (((v4++v15)++v18.1),0)) none) none)
 (some (v4,0))))
theorem Qm7 {N} {version} {p} {r} (h:Q7e N version p=some r):pU 168 [.int .i64 version,.agg (Q1.cells p)] (.tuple [.str r.1,.int .i64 r.2]):=by
 refine Q0 Znf ?_;unfold Q7e at h;rw [cX] at h;refine cP h Qki zd fun v1 h=>?_;refine iL2 h fun h=>?_;refine cP h Yt p2 fun v4 h=>?_;apply iU h<;>intro h
 ·refine cP h Yt p2 fun v7 h=>?_;refine kU h fun h=>?_;refine iR2 h fun h=>?_;refine cP h Jq p2 fun v11 h=>?_;refine kU h fun h=>?_;obtain rfl:=Qi h;exact u2
 refine ifO h (fun hc14 h=>?_) (fun hc14 h=>?_)
 ·refine cP h Yt p2 fun v15 h=>?_;refine kU h fun h=>?_;refine ifT hc14 ?_;refine cP h Jq p2 fun v18 h=>?_;refine kU h fun h=>?_;obtain rfl:=Qi h;exact u2
 refine ifF hc14 ?_;obtain rfl:=Qi h;exact u2
def Q0v (N:Nat) (d:Zr):Option ((List UInt8)×Int):=
 (Q7e N d.version d.p).bind fun v1=>
 some (v1.1,v1.2)
theorem Q2a {N} {d} {r} (h:Q0v N d=some r):pU 113 [.agg (Zr.cells d)] (.tuple [.str r.1,.int .i64 r.2]):=by
 refine Q0 Zqj ?_;unfold Q0v at h;refine cP h Qm7 zd fun v1 h=>?_;obtain rfl:=Qi h;exact u2
def Vj (_N:Nat) (kind:Int):Option Bool:=
 cond (Q4 .eql kind 8)
 (some true)
 (some (Q4 .eql kind 10))
theorem Q66 {N} {kind} {r} (h:Vj N kind=some r):pU 345 [.int .i64 kind] (.bool r):=by
 refine Q0 Zik ?_;unfold Vj at h;rw [cX] at h;exact iB h
def Uh (_N:Nat) (version:Int) (kind:Int):Option Bool:=
 cond (Q4 .eql kind 11)
 (some (Q4 .eql version 4))
 (some false)
theorem Q6n {N} {version} {kind} {r} (h:Uh N version kind=some r):pU 397 [.int .i64 version,.int .i64 kind] (.bool r):=by
 refine Q0 Znn ?_;unfold Uh at h;rw [cX] at h;exact iB h
def Q19 (N:Nat) (version:Int) (p:Q1):Option Bool:=
 cond (Q4 .lss p.ID 1)
 (some false)
 (cond (Q4 .gtr p.ID 65535)
 (some false)
 (cond (Q4 .eql version 4)
 (cond (Q4 .gtr ((Q7 Q6.cells p.Props).length:Int) 0)
 (some false)
 ((Vj N p.Kind).bind fun v5=>
 cond v5
 (cond (Q4 .gtr ((Q7 Qa.cells p.Filters).length:Int) 0)
 ((Z5 N p (⟨p.Kind,false,false,0,p.ID,[],[],false,0,[],false,[],false,[],false,(⟨[],[],0,false,[]⟩:Y5),false,0,[],p.Filters,p.Props⟩:Q1)).bind fun v9=>
 some v9)
 (some false))
 ((Uh N version p.Kind).bind fun v11=>
 cond v11
 ((Z5 N p (⟨p.Kind,false,false,0,p.ID,[],[],false,0,[],false,[],false,[],false,(⟨[],[],0,false,[]⟩:Y5),false,0,[],[],p.Props⟩:Q1)).bind fun v14=>
 some v14)
 (cond (Q4 .gtr ((Q7 (cI .i64) p.Codes).length:Int) 0)
 ((Z5 N p (⟨p.Kind,false,false,0,p.ID,[],[],false,0,[],false,[],false,[],false,(⟨[],[],0,false,[]⟩:Y5),false,0,p.Codes,[],p.Props⟩:Q1)).bind fun v17=>
 some v17)
 (some false)))))
 ((Vj N p.Kind).bind fun v19=>
 cond v19
 (cond (Q4 .gtr ((Q7 Qa.cells p.Filters).length:Int) 0)
 ((Z5 N p (⟨p.Kind,false,false,0,p.ID,[],[],false,0,[],false,[],false,[],false,(⟨[],[],0,false,[]⟩:Y5),false,0,[],p.Filters,p.Props⟩:Q1)).bind fun v23=>
 some v23)
 (some false))
 ((Uh N version p.Kind).bind fun v25=>
 cond v25
 ((Z5 N p (⟨p.Kind,false,false,0,p.ID,[],[],false,0,[],false,[],false,[],false,(⟨[],[],0,false,[]⟩:Y5),false,0,[],[],p.Props⟩:Q1)).bind fun v28=>
 some v28)
 (cond (Q4 .gtr ((Q7 (cI .i64) p.Codes).length:Int) 0)
 ((Z5 N p (⟨p.Kind,false,false,0,p.ID,[],[],false,0,[],false,[],false,[],false,(⟨[],[],0,false,[]⟩:Y5),false,0,p.Codes,[],p.Props⟩:Q1)).bind fun v31=>
 some v31)
 (some false))))))
theorem Qcm {N} {version} {p} {r} (h:Q19 N version p=some r):pU 337 [.int .i64 version,.agg (Q1.cells p)] (.bool r):=by
 refine Q0 Zls ?_;unfold Q19 at h;rw [cX] at h;refine iL h fun h=>?_;refine iL h fun h=>?_;apply iU h<;>intro h
 ·refine iL h fun h=>?_;refine cP h Q66 p1 fun v5 h=>?_;apply iU h<;>intro h
  ·refine iR h fun h=>?_;refine cP h Za (.cons zb (.cons (Ap (Qo (f2_ (f1_ (.cons (.nil _) (f2_ (.cons (.nil _) p2))))))) .nil)) fun v9 h=>?_;cases h;exact (.p _)
  refine cP h Q6n p2 fun v11 h=>?_;apply iU h<;>intro h
  ·refine cP h Za (.cons zb (.cons (Ap (Qo (f2_ (f1_ (.cons (.nil _) (f2_ (.cons (.nil _) (.cons (.nil _) p1)))))))) .nil)) fun v14 h=>?_;cases h;exact (.p _)
  refine iR h fun h=>?_;refine cP h Za (.cons zb (.cons (Ap (Qo (f2_ (f1_ (.cons (.nil _) (f2_ (f1_ (.cons (.nil _) p1)))))))) .nil)) fun v17 h=>?_;cases h;exact (.p _)
 refine cP h Q66 p1 fun v19 h=>?_;apply iU h<;>intro h
 ·refine iR h fun h=>?_;refine cP h Za (.cons zb (.cons (Ap (Qo (f2_ (f1_ (.cons (.nil _) (f2_ (.cons (.nil _) p2))))))) .nil)) fun v23 h=>?_;cases h;exact (.p _)
 refine cP h Q6n p2 fun v25 h=>?_;apply iU h<;>intro h
 ·refine cP h Za (.cons zb (.cons (Ap (Qo (f2_ (f1_ (.cons (.nil _) (f2_ (.cons (.nil _) (.cons (.nil _) p1)))))))) .nil)) fun v28 h=>?_;cases h;exact (.p _)
 refine iR h fun h=>?_;refine cP h Za (.cons zb (.cons (Ap (Qo (f2_ (f1_ (.cons (.nil _) (f2_ (f1_ (.cons (.nil _) p1)))))))) .nil)) fun v31 h=>?_;cases h;exact (.p _)
def Q4u (_N:Nat) (s_0:List UInt8):Option Bool:=
 cond (Q1l .eql s_0 [43])
 (some true)
 (some (Q1l .eql s_0 [35]))
theorem Qck {N} {s_0} {r} (h:Q4u N s_0=some r):pU 435 [.str s_0] (.bool r):=by
 refine Q0 Zna ?_;unfold Q4u at h;rw [cY] at h;exact iB h
def Ye (N:Nat) (l:List (List UInt8)):Nat->Int->Option Bool
 | 0,_=>none
 | n+1,s36=>
  cond (Q4 .lss s36 ((Q7 cS l).length:Int))
  ((idx l s36).bind fun y38=>
  cond (Q1l .eql y38 [35])
  (cond (!(Q4 .eql (wrap .i64 (s36+1)) ((Q7 cS l).length:Int)))
  (some false)
  ((Q4u N y38).bind fun v42=>
  cond (!v42)
  ((X9 N y38).bind fun v45=>
  cond v45
  (some false)
  (Ye N l n (wrap .i64 (s36+1))))
  (Ye N l n (wrap .i64 (s36+1)))))
  ((Q4u N y38).bind fun v48=>
  cond (!v48)
  ((X9 N y38).bind fun v51=>
  cond v51
  (some false)
  (Ye N l n (wrap .i64 (s36+1))))
  (Ye N l n (wrap .i64 (s36+1)))))
  (some true)
def Q44 (N:Nat) (l:List (List UInt8)):Option Bool:=
 Ye N l N 0
theorem Qh0 {N} {l} {r} (h:Q44 N l=some r):pU 398 [.slice 1 (Q7 cS l)] (.bool r):=by
 refine Q0 Zf8 ?_;unfold Q44 at h;refine lpH (τ:=Int) (fun s36=>(.p (.slice 1 (Q7 cS l))::a4 (.any :: .p (.slice 1 (Q7 cS l))::iI ((Q7 cS l).length:Int)::iI s36::a16 (a8 (.any :: []))):List AV)) (fun n0 s36=>Ye N l n0 s36) (0) h fun n0 s36 h=>?_
 first | rw [Ye] at h | simp only [Ye] at h
 rw [cX,cY] at h;refine iR h fun h=>?_;refine xR h fun y38 h=>?_;apply iU h<;>intro h
 ·refine iL h fun h=>?_;refine cP h Qck p1 fun v42 h=>?_;apply iU h<;>intro h
  ·refine cP h Q0a p2 fun v45 h=>?_;refine iL h fun h=>?_;show Exists _;exact ⟨(n0,(wrap .i64 (s36+1))),h,Le _,(fun i=>i),Yf⟩
  show Exists _;exact ⟨(n0,(wrap .i64 (s36+1))),h,Le _,(fun i=>i),Yf⟩
 refine cP h Qck p1 fun v48 h=>?_;apply iU h<;>intro h
 ·refine cP h Q0a p2 fun v51 h=>?_;refine iL h fun h=>?_;show Exists _;exact ⟨(n0,(wrap .i64 (s36+1))),h,Le _,(fun i=>i),Yf⟩
 show Exists _;exact ⟨(n0,(wrap .i64 (s36+1))),h,Le _,(fun i=>i),Yf⟩
def Yg (N:Nat) (s_0:List UInt8):Nat->Int->Nat->Option Int
 | 0,_,_=>none
 | n+1,n5,pos6=>
  cond (Nat.blt pos6 s_0.length)
  (Yg N s_0 n (wrap .i64 (n5+1)) (pos6+(Qg6 s_0 pos6).2))
  (some n5)
def Uv (N:Nat) (s_0:List UInt8):Option Int:=
 Yg N s_0 N 0 0
theorem Q4f {N} {s_0} {r} (h:Uv N s_0=some r):pU 502 [.str s_0] (.int .i64 r):=by
 refine Q0 Zo5 ?_;unfold Uv at h;refine lpA (τ:=Int×Nat) (fun ⟨n5,_⟩=>(.any :: .any::iI n5 :: .any :: .ptr 0 0::a4 (.any :: []):List AV)) (fun ⟨_,pos6⟩=>(.strIter s_0 pos6 :: []:List AObj)) (fun n0 ⟨n5,pos6⟩=>Yg N s_0 n0 n5 pos6) (0,0) h fun n0 ⟨n5,pos6⟩ h=>?_
 first | rw [Yg] at h | simp only [Yg] at h
 refine iR h fun h=>?_;show Exists _;exact ⟨(n0,(wrap .i64 (n5+1)),(pos6+(Qg6 s_0 pos6).2)),h,Le _,(fun i=>i),Yf⟩
end
end
end Go.Av
