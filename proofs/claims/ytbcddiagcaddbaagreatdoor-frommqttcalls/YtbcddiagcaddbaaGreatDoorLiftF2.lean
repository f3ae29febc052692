/- Part of FrommqttCalls: the law returns true; no condition. -/
import Derived.Test.YtbcddiagcaddbaaGreatDoorLiftF1
set_option linter.all false
open Go.IntKind (wrap)
namespace Go.Av
noncomputable section
open Go.Proofs
set_option maxRecDepth 100000
set_option maxHeartbeats 4000000
attribute [local irreducible] Q06 Ue Qdu Qjw Qxl Qy1 Qj3
section
def Yb (N:Nat) (p:Q1):Nat->Int->Option Bool
 | 0,_=>none
 | n+1,i11=>
  cond (Q4 .lss i11 ((Q7 Qa.cells p.Filters).length:Int))
  (cond (Q4 .lss i11 31)
  ((idx p.Filters i11).bind fun y14=>
  cond (Q4 .gtr (y14.Topic.length:Int) 2000)
  (some false)
  (Yb N p n (wrap .i64 (i11+1))))
  (cond (Q4 .leq (p.Topic.length:Int) 2000)
  (cond (Q4 .leq (p.Payload.length:Int) 2000)
  (cond (Q4 .leq (p.Client.length:Int) 2000)
  (cond (Q4 .leq (p.User.length:Int) 2000)
  (cond (Q4 .leq (p.Pass.length:Int) 2000)
  (cond (Q4 .leq (p.Will.Topic.length:Int) 2000)
  (cond (Q4 .leq (p.Will.Payload.length:Int) 2000)
  (cond (Q4 .leq ((Q7 (cI .i64) p.Codes).length:Int) 30)
  (cond (Q4 .leq ((Q7 Qa.cells p.Filters).length:Int) 30)
  ((Zm N p.Props).bind fun v26=>
  cond v26
  ((Zm N p.Will.Props).bind fun v29=>
  some v29)
  (some false))
  (some false))
  (some false))
  (some false))
  (some false))
  (some false))
  (some false))
  (some false))
  (some false))
  (some false)))
  (cond (Q4 .leq (p.Topic.length:Int) 2000)
  (cond (Q4 .leq (p.Payload.length:Int) 2000)
  (cond (Q4 .leq (p.Client.length:Int) 2000)
  (cond (Q4 .leq (p.User.length:Int) 2000)
  (cond (Q4 .leq (p.Pass.length:Int) 2000)
  (cond (Q4 .leq (p.Will.Topic.length:Int) 2000)
  (cond (Q4 .leq (p.Will.Payload.length:Int) 2000)
  (cond (Q4 .leq ((Q7 (cI .i64) p.Codes).length:Int) 30)
  (cond (Q4 .leq ((Q7 Qa.cells p.Filters).length:Int) 30)
  ((Zm N p.Props).bind fun v40=>
  cond v40
  ((Zm N p.Will.Props).bind fun v43=>
  some v43)
  (some false))
  (some false))
  (some false))
  (some false))
  (some false))
  (some false))
  (some false))
  (some false))
  (some false))
  (some false))
def Vg (N:Nat) (p:Q1):Option Bool:=
 Yb N p N 0
theorem Q31 {N} {p} {r} (h:Vg N p=some r):pU 5 [.agg (Q1.cells p)] (.bool r):=by
 refine Q0 k5 ?_;unfold Vg at h;refine lpH (τ:=Int) (fun i11=>(.any :: .ptr 0 0 :: .any::iI i11::a16 (a16 (a16 (a16 (a16 (a4 ([])))))):List AV)) (fun n0 i11=>Yb N p n0 i11) (0) h fun n0 i11 h=>?_
 first | rw [Yb] at h | simp only [Yb] at h
 rw [cX] at h;apply iU h<;>intro h
 ·apply iU h<;>intro h
  ·refine xR h fun y14 h=>?_;refine iL h fun h=>?_;show Exists _;exact ⟨(n0,(wrap .i64 (i11+1))),h,Le _,(fun i=>i),Yf⟩
  refine iR h fun h=>?_;refine iR h fun h=>?_;refine iR h fun h=>?_;refine iR h fun h=>?_;refine iR h fun h=>?_;refine iR h fun h=>?_;refine iR h fun h=>?_;refine iR h fun h=>?_;refine iR h fun h=>?_;refine cP h Wk p1 fun v26 h=>?_;refine iR h fun h=>?_;refine cP h Wk p1 fun v29 h=>?_;cases h;exact (.p _)
 refine iR h fun h=>?_;refine iR h fun h=>?_;refine iR h fun h=>?_;refine iR h fun h=>?_;refine iR h fun h=>?_;refine iR h fun h=>?_;refine iR h fun h=>?_;refine iR h fun h=>?_;refine iR h fun h=>?_;refine cP h Wk p1 fun v40 h=>?_;refine iR h fun h=>?_;refine cP h Wk p1 fun v43 h=>?_;cases h;exact (.p _)
def Q2w (_N:Nat) (m:Qbr):Option Bool:=
 cond (Q4 .leq (m.Name.length:Int) 70000)
 (some (Q4 .leq (m.Data.length:Int) 70000))
 (some false)
theorem Q8y {N} {m} {r} (h:Q2w N m=some r):pU 45 [.agg (Qbr.cells m)] (.bool r):=by
 refine Q0 k45 ?_;unfold Q2w at h;rw [cX] at h;exact iB h
def Zy (N:Nat) (d:Q5m):Nat->Int->Option Bool
 | 0,_=>none
 | n+1,i14=>
  cond (Q4 .lss i14 ((Q7 Q09.cells d.Hops).length:Int))
  ((idx d.Hops i14).bind fun y16=>
  cond (Q4 .gtr (y16.Node.length:Int) 300)
  (some false)
  (Zy N d n (wrap .i64 (i14+1))))
  (some true)
def Uk (N:Nat) (d:Q5m):Option Bool:=
 cond (Q4 .gtr ((Q7 Q09.cells d.Hops).length:Int) 8)
 (some false)
 ((Q2w N d.Msg).bind fun v2=>
 cond (!v2)
 (some false)
 (Zy N d N 0))
theorem Q6s {N} {d} {r} (h:Uk N d=some r):pU 21 [.agg (Q5m.cells d)] (.bool r):=by
 refine Q0 k21 ?_;unfold Uk at h;rw [cX] at h;refine iL h fun h=>?_;refine cP h Q8y (.cons (Ap (f8_ (f2_ (.cons (.p _) p5)))) .nil) fun v2 h=>?_;refine iL h fun h=>?_;refine lpH (τ:=Int) (fun i14=>(.any :: .ptr 0 0 :: .any::iI i14::a16 (a8 (.any :: [])):List AV)) (fun n0 i14=>Zy N d n0 i14) (0) h fun n0 i14 h=>?_
 first | rw [Zy] at h | simp only [Zy] at h
 rw [cX] at h;refine iR h fun h=>?_;refine xR h fun y16 h=>?_;refine iL h fun h=>?_;show Exists _;exact ⟨(n0,(wrap .i64 (i14+1))),h,Le _,(fun i=>i),Yf⟩
def Yn (rz:Q2->Int->Int->Option Int) (N:Nat) (v:Q2) (deep:Int) (most:Int):Nat->Int->Int->Option Int
 | 0,_,_=>none
 | n+1,n18,i19=>
  cond (Q4 .lss i19 ((Q2.rows v.Items).length:Int))
  (cond (Q4 .leq n18 most)
  ((idx v.Items i19).bind fun y22=>
  (rz y22 (wrap .i64 (deep - 1)) (wrap .i64 (most - n18))).bind fun v24=>
  Yn rz N v deep most n (wrap .i64 (n18+v24)) (wrap .i64 (i19+1)))
  (some n18))
  (some n18)
def Q0l (rz:Q2->Int->Int->Option Int) (N:Nat) (v:Q2) (deep:Int) (most:Int):Option Int:=
 cond (Q4 .lss deep 0)
 (some (wrap .i64 (most+1)))
 (cond (Q4 .gtr ((Q2.rows v.Items).length:Int) most)
 (some (wrap .i64 (most+1)))
 (cond (Q4 .gtr (v.Text.length:Int) 400)
 (some (wrap .i64 (most+1)))
 (Yn rz N v deep most N 1 0)))
theorem Qbn {rz:Q2->Int->Int->Option Int} (hy1:∀ {v} {deep} {most} {r},rz v deep most=some r->pU 65 [.agg (Q2.cells v),.int .i64 deep,.int .i64 most] (.int .i64 r)) {N} {v} {deep} {most} {r} (h:Q0l rz N v deep most=some r):pU 65 [.agg (Q2.cells v),.int .i64 deep,.int .i64 most] (.int .i64 r):=by
 refine Q0 k65 ?_;unfold Q0l at h;rw [cX] at h;refine iL h fun h=>?_;refine iL h fun h=>?_;refine iL h fun h=>?_;refine lpH (τ:=Int×Int) (fun ⟨n18,i19⟩=>(.any::iI deep::iI most :: .ptr 0 0::a2 (.any::iI n18::iI i19::a16 (a16 (a8 (a2 (.any :: []))))):List AV)) (fun n0 ⟨n18,i19⟩=>Yn rz N v deep most n0 n18 i19) (1,0) h fun n0 ⟨n18,i19⟩ h=>?_
 first | rw [Yn] at h | simp only [Yn] at h
 rw [cX] at h;refine iR h fun h=>?_;refine iR h fun h=>?_;refine Q2.xR h fun y22 h=>?_;refine cP h hy1 (.cons q4 p2) fun v24 h=>?_;show Exists _;exact ⟨(n0,(wrap .i64 (n18+v24)),(wrap .i64 (i19+1))),h,Le _,(fun i=>i),Yf⟩
def Y8:Nat->Q2->Int->Int->Option Int
 | 0=>fun _ _ _=>none
 | N+1=>Q0l (Y8 N) N
theorem Qbm {N} {v} {deep} {most} {r} (h:Y8 N v deep most=some r):pU 65 [.agg (Q2.cells v),.int .i64 deep,.int .i64 most] (.int .i64 r):=by
 induction N generalizing v deep most r with
 | zero=>simp [Y8] at h
 | succ N ih=>exact Qbn (fun h=>ih h) h
def Vy (N:Nat) (v:Q2):Option Bool:=
 (Y8 N v 6 40).bind fun v1=>
 some (Q4 .leq v1 40)
theorem Q88 {N} {v} {r} (h:Vy N v=some r):pU 46 [.agg (Q2.cells v)] (.bool r):=by
 refine Q0 k46 ?_;unfold Vy at h;rw [cX] at h;refine cP h Qbm (.cons q4 p2) fun v1 h=>?_;cases h;exact (.p _)
def Zh (N:Nat) (f:Y2):Nat->Int->Option Bool
 | 0,_=>none
 | n+1,i17=>
  cond (Q4 .lss i17 ((Q2.rows f.Values).length:Int))
  ((idx f.Values i17).bind fun y19=>
  (Vy N y19).bind fun v21=>
  cond (!v21)
  (some false)
  (Zh N f n (wrap .i64 (i17+1))))
  (some true)
def Yo (N:Nat) (f:Y2):Option Bool:=
 cond (Q4 .gtr ((Q2.rows f.Values).length:Int) 6)
 (some false)
 (cond (Q4 .gtr (f.Ext.length:Int) 1100)
 (some false)
 (Zh N f N 0))
theorem Q7r {N} {f} {r} (h:Yo N f=some r):pU 22 [.agg (Y2.cells f)] (.bool r):=by
 refine Q0 k22 ?_;unfold Yo at h;rw [cX] at h;refine iL h fun h=>?_;refine iL h fun h=>?_;refine lpH (τ:=Int) (fun i17=>(.any :: .ptr 0 0 :: .any::iI i17::a16 (a8 ([])):List AV)) (fun n0 i17=>Zh N f n0 i17) (0) h fun n0 i17 h=>?_
 first | rw [Zh] at h | simp only [Zh] at h
 rw [cX] at h;refine iR h fun h=>?_;refine Q2.xR h fun y19 h=>?_;refine cP h Q88 (.cons q4 .nil) fun v21 h=>?_;refine iL h fun h=>?_;show Exists _;exact ⟨(n0,(wrap .i64 (i17+1))),h,Le _,(fun i=>i),Yf⟩
def G6 (N:Nat) (e:Qd):Option Bool:=
 cond (Q4 .leq (e.Topic.length:Int) 2000)
 (cond (Q4 .leq (e.Payload.length:Int) 2000)
 ((Zm N e.Props).bind fun v3=>
 cond v3
 ((Vg N e.Packet).bind fun v6=>
 cond v6
 ((Uk N (⟨e.Hops,e.Msg⟩:Q5m)).bind fun v9=>
 cond v9
 ((Yo N e.Frame).bind fun v12=>
 some v12)
 (some false))
 (some false))
 (some false))
 (some false))
 (some false)
theorem Q7n {N} {e} {r} (h:G6 N e=some r):pU 6 [.agg (Qd.cells e)] (.bool r):=by
 refine Q0 k6 ?_;unfold G6 at h;rw [cX] at h;refine iR h fun h=>?_;refine iR h fun h=>?_;refine cP h Wk p1 fun v3 h=>?_;refine iR h fun h=>?_;refine cP h Q31 zc fun v6 h=>?_;refine iR h fun h=>?_;refine cP h Q6s (.cons (Ap (f8_ za)) .nil) fun v9 h=>?_;refine iR h fun h=>?_;refine cP h Q7r (.cons q4 .nil) fun v12 h=>?_;cases h;exact (.p _)
def Wj (_N:Nat) (version:Int):Option (Int×Bool):=
 cond (Q4 .eql version 4)
 (some (1,true))
 (cond (Q4 .eql version 5)
 (some (2,true))
 (some (0,false)))
theorem Q4m {N} {version} {r} (h:Wj N version=some r):pU 16 [.int .i64 version] (.tuple [.int .i64 r.1,.bool r.2]):=by
 refine Q0 k16 ?_;unfold Wj at h;rw [cX] at h;refine iL2 h fun h=>?_;exact iB2 h
def Z7 (_N:Nat) (version:Int):Option Bool:=
 cond (Q4 .eql version 4)
 (some true)
 (some (Q4 .eql version 5))
theorem Y9 {N} {version} {r} (h:Z7 N version=some r):pU 69 [.int .i64 version] (.bool r):=by
 refine Q0 k69 ?_;unfold Z7 at h;rw [cX] at h;exact iB h
def V5 (_N:Nat) (version:Int) (p:Q1):Option (Q1):=
 cond (Q4 .eql p.Kind 2)
 (some (⟨p.Kind,false,false,0,0,[],[],false,0,[],false,[],false,[],false,(⟨[],[],0,false,[]⟩:Y5),p.Session,p.Code,[],[],p.Props⟩:Q1))
 (cond p.HasUser
 (cond p.HasPass
 (cond p.HasWill
 (some (⟨p.Kind,false,false,0,0,[],[],p.Clean,p.KeepAlive,p.Client,p.HasUser,p.User,p.HasPass,p.Pass,p.HasWill,p.Will,false,0,[],[],p.Props⟩:Q1))
 (some (⟨p.Kind,false,false,0,0,[],[],p.Clean,p.KeepAlive,p.Client,p.HasUser,p.User,p.HasPass,p.Pass,p.HasWill,(⟨[],[],0,false,[]⟩:Y5),false,0,[],[],p.Props⟩:Q1)))
 (cond p.HasWill
 (some (⟨p.Kind,false,false,0,0,[],[],p.Clean,p.KeepAlive,p.Client,p.HasUser,p.User,p.HasPass,[],p.HasWill,p.Will,false,0,[],[],p.Props⟩:Q1))
 (some (⟨p.Kind,false,false,0,0,[],[],p.Clean,p.KeepAlive,p.Client,p.HasUser,p.User,p.HasPass,[],p.HasWill,(⟨[],[],0,false,[]⟩:Y5),false,0,[],[],p.Props⟩:Q1))))
 (cond p.HasPass
 (cond p.HasWill
 (some (⟨p.Kind,false,false,0,0,[],[],p.Clean,p.KeepAlive,p.Client,p.HasUser,[],p.HasPass,p.Pass,p.HasWill,p.Will,false,0,[],[],p.Props⟩:Q1))
 (some (⟨p.Kind,false,false,0,0,[],[],p.Clean,p.KeepAlive,p.Client,p.HasUser,[],p.HasPass,p.Pass,p.HasWill,(⟨[],[],0,false,[]⟩:Y5),false,0,[],[],p.Props⟩:Q1)))
 (cond p.HasWill
 (some (⟨p.Kind,false,false,0,0,[],[],p.Clean,p.KeepAlive,p.Client,p.HasUser,[],p.HasPass,[],p.HasWill,p.Will,false,0,[],[],p.Props⟩:Q1))
 (some (⟨p.Kind,false,false,0,0,[],[],p.Clean,p.KeepAlive,p.Client,p.HasUser,[],p.HasPass,[],p.HasWill,(⟨[],[],0,false,[]⟩:Y5),false,0,[],[],p.Props⟩:Q1)))))
theorem Q5s {N} {version} {p} {r} (h:V5 N version p=some r):pU 274 [.int .i64 version,.agg (Q1.cells p)] (.agg (Q1.cells r)):=by
 refine Q0 Za8 ?_;unfold V5 at h;rw [cX] at h;apply iU h<;>intro h
 ·obtain rfl:=Qi h;exact (Ap (Qo (f2_ (f1_ (.cons (.nil _) (f2_ (.cons (.nil _) (.cons (.nil _) p1))))))))
 apply iU h<;>intro h
 ·apply iU h<;>intro h
  ·apply iU h<;>intro h
   ·obtain rfl:=Qi h;exact (Ap (Qo (f4_ (f2_ (.cons (.nil _) (.cons (.nil _) p1))))))
   obtain rfl:=Qi h;exact (Ap (Qo (f2_ (f1_ (.cons (.nil _) (f2_ (.cons (.nil _) (.cons (.nil _) p1))))))))
  apply iU h<;>intro h
  ·obtain rfl:=Qi h;exact (Ap (Qo (f4_ (f2_ (.cons (.nil _) (.cons (.nil _) p1))))))
  obtain rfl:=Qi h;exact (Ap (Qo (f2_ (f1_ (.cons (.nil _) (f2_ (.cons (.nil _) (.cons (.nil _) p1))))))))
 apply iU h<;>intro h
 ·apply iU h<;>intro h
  ·obtain rfl:=Qi h;exact (Ap (Qo (f4_ (f2_ (.cons (.nil _) (.cons (.nil _) p1))))))
  obtain rfl:=Qi h;exact (Ap (Qo (f2_ (f1_ (.cons (.nil _) (f2_ (.cons (.nil _) (.cons (.nil _) p1))))))))
 apply iU h<;>intro h
 ·obtain rfl:=Qi h;exact (Ap (Qo (f4_ (f2_ (.cons (.nil _) (.cons (.nil _) p1))))))
 obtain rfl:=Qi h;exact (Ap (Qo (f2_ (f1_ (.cons (.nil _) (f2_ (.cons (.nil _) (.cons (.nil _) p1))))))))
def Q0p (_N:Nat) (code:Int):Option Bool:=
 cond (Q4 .geq code 0)
 (some (Q4 .leq code 5))
 (some false)
theorem Q8z {N} {code} {r} (h:Q0p N code=some r):pU 275 [.int .i64 code] (.bool r):=by
 refine Q0 Zh8 ?_;unfold Q0p at h;rw [cX] at h;exact iB h
def Wt (N:Nat) (a:List Q6) (b:List Q6):Nat->Int->Option Bool
 | 0,_=>none
 | n+1,i17=>
  cond (Q4 .lss i17 ((Q7 Q6.cells a).length:Int))
  ((idx a i17).bind fun y19=>
  (idx b i17).bind fun y21=>
  cond (!(((y19.ID:Int) == y21.ID)&&(((y19.N':Int) == y21.N')&&(((y19.Text:List UInt8) == y21.Text)&&(((y19.Value:List UInt8) == y21.Value)&&true)))))
  (some false)
  (Wt N a b n (wrap .i64 (i17+1))))
  (some true)
def V2 (N:Nat) (a:List Q6) (b:List Q6):Option Bool:=
 cond (Q4 .neq ((Q7 Q6.cells a).length:Int) ((Q7 Q6.cells b).length:Int))
 (some false)
 (Wt N a b N 0)
theorem Q2f {N} {a} {b} {r} (h:V2 N a b=some r):pU 40 [.slice 4 (Q7 Q6.cells a),.slice 4 (Q7 Q6.cells b)] (.bool r):=by
 refine Q0 k40 ?_;unfold V2 at h;rw [cX] at h;refine iL h fun h=>?_;refine lpH (τ:=Int) (fun i17=>(.p (.slice 4 (Q7 Q6.cells a)) :: .p (.slice 4 (Q7 Q6.cells b))::a2 (.any::iI i17::a16 (a4 ([]))):List AV)) (fun n0 i17=>Wt N a b n0 i17) (0) h fun n0 i17 h=>?_
 first | rw [Wt] at h | simp only [Wt] at h
 rw [cX] at h;refine iR h fun h=>?_;refine Ql ?_;refine xR h fun y19 h=>?_;refine xR h fun y21 h=>?_;refine iL h fun h=>?_;show Exists _;exact ⟨(n0,(wrap .i64 (i17+1))),h,Le _,(fun i=>i),Yf⟩
def Wv (N:Nat) (a:List Int) (b:List Int):Nat->Int->Option Bool
 | 0,_=>none
 | n+1,i17=>
  cond (Q4 .lss i17 ((Q7 (cI .i64) a).length:Int))
  ((idx a i17).bind fun y19=>
  (idx b i17).bind fun y21=>
  cond (Q4 .neq y19 y21)
  (some false)
  (Wv N a b n (wrap .i64 (i17+1))))
  (some true)
def Gq (N:Nat) (a:List Int) (b:List Int):Option Bool:=
 cond (Q4 .neq ((Q7 (cI .i64) a).length:Int) ((Q7 (cI .i64) b).length:Int))
 (some false)
 (Wv N a b N 0)
theorem Qax {N} {a} {b} {r} (h:Gq N a b=some r):pU 43 [.slice 1 (Q7 (cI .i64) a),.slice 1 (Q7 (cI .i64) b)] (.bool r):=by
 refine Q0 k43 ?_;unfold Gq at h;rw [cX] at h;refine iL h fun h=>?_;refine lpH (τ:=Int) (fun i17=>(.p (.slice 1 (Q7 (cI .i64) a)) :: .p (.slice 1 (Q7 (cI .i64) b))::a2 (.any::iI i17::a16 (a4 ([]))):List AV)) (fun n0 i17=>Wv N a b n0 i17) (0) h fun n0 i17 h=>?_
 first | rw [Wv] at h | simp only [Wv] at h
 rw [cX] at h;refine iR h fun h=>?_;refine Ql ?_;refine xR h fun y19 h=>?_;refine xR h fun y21 h=>?_;refine iL h fun h=>?_;show Exists _;exact ⟨(n0,(wrap .i64 (i17+1))),h,Le _,(fun i=>i),Yf⟩
def Xp (N:Nat) (a:List Qa) (b:List Qa):Nat->Int->Option Bool
 | 0,_=>none
 | n+1,i17=>
  cond (Q4 .lss i17 ((Q7 Qa.cells a).length:Int))
  ((idx a i17).bind fun y19=>
  (idx b i17).bind fun y21=>
  cond (!(((y19.Topic:List UInt8) == y21.Topic)&&(((y19.QoS:Int) == y21.QoS)&&(((y19.NoLocal:Bool) == y21.NoLocal)&&(((y19.AsPublished:Bool) == y21.AsPublished)&&(((y19.Handling:Int) == y21.Handling)&&true))))))
  (some false)
  (Xp N a b n (wrap .i64 (i17+1))))
  (some true)
def U8 (N:Nat) (a:List Qa) (b:List Qa):Option Bool:=
 cond (Q4 .neq ((Q7 Qa.cells a).length:Int) ((Q7 Qa.cells b).length:Int))
 (some false)
 (Xp N a b N 0)
theorem Q8b {N} {a} {b} {r} (h:U8 N a b=some r):pU 44 [.slice 5 (Q7 Qa.cells a),.slice 5 (Q7 Qa.cells b)] (.bool r):=by
 refine Q0 k44 ?_;unfold U8 at h;rw [cX] at h;refine iL h fun h=>?_;refine lpH (τ:=Int) (fun i17=>(.p (.slice 5 (Q7 Qa.cells a)) :: .p (.slice 5 (Q7 Qa.cells b))::a2 (.any::iI i17::a16 (a4 ([]))):List AV)) (fun n0 i17=>Xp N a b n0 i17) (0) h fun n0 i17 h=>?_
 first | rw [Xp] at h | simp only [Xp] at h
 rw [cX] at h;refine iR h fun h=>?_;refine Ql ?_;refine xR h fun y19 h=>?_;refine xR h fun y21 h=>?_;refine iL h fun h=>?_;show Exists _;exact ⟨(n0,(wrap .i64 (i17+1))),h,Le _,(fun i=>i),Yf⟩
def Qk (N:Nat) (a:Q1) (b:Q1):Option Bool:=
 cond (Q1l .neq a.Will.Topic b.Will.Topic)
 (some false)
 (cond (Q1l .neq a.Will.Payload b.Will.Payload)
 (some false)
 (cond (Q4 .neq a.Will.QoS b.Will.QoS)
 (some false)
 (cond (!(a.Will.Retain == b.Will.Retain))
 (some false)
 ((V2 N a.Will.Props b.Will.Props).bind fun v5=>
 cond (!v5)
 (some false)
 (cond (Q4 .neq a.Kind b.Kind)
 (some false)
 (cond (!(a.Dup == b.Dup))
 (some false)
 (cond (!(a.Retain == b.Retain))
 (some false)
 (cond (Q4 .neq a.QoS b.QoS)
 (some false)
 (cond (Q4 .neq a.ID b.ID)
 (some false)
 (cond (Q1l .neq a.Topic b.Topic)
 (some false)
 (cond (Q1l .neq a.Payload b.Payload)
 (some false)
 (cond (!(a.Clean == b.Clean))
 (some false)
 (cond (Q4 .neq a.KeepAlive b.KeepAlive)
 (some false)
 (cond (Q1l .neq a.Client b.Client)
 (some false)
 (cond (!(a.HasUser == b.HasUser))
 (some false)
 (cond (Q1l .neq a.User b.User)
 (some false)
 (cond (!(a.HasPass == b.HasPass))
 (some false)
 (cond (Q1l .neq a.Pass b.Pass)
 (some false)
 (cond (!(a.HasWill == b.HasWill))
 (some false)
 (cond (!(a.Session == b.Session))
 (some false)
 (cond (Q4 .neq a.Code b.Code)
 (some false)
 ((Gq N a.Codes b.Codes).bind fun v25=>
 cond v25
 ((U8 N a.Filters b.Filters).bind fun v28=>
 cond v28
 ((V2 N a.Props b.Props).bind fun v31=>
 some v31)
 (some false))
 (some false)))))))))))))))))))))))
theorem Qv {N} {a} {b} {r} (h:Qk N a b=some r):pU 18 [.agg (Q1.cells a),.agg (Q1.cells b)] (.bool r):=by
 refine Q0 k18 ?_;unfold Qk at h;rw [cX,cY] at h;refine Ql ?_;refine iL h fun h=>?_;refine iL h fun h=>?_;refine iL h fun h=>?_;refine iL h fun h=>?_;refine cP h Q2f p2 fun v5 h=>?_;refine iL h fun h=>?_;refine iL h fun h=>?_;refine iL h fun h=>?_;refine iL h fun h=>?_;refine iL h fun h=>?_;refine iL h fun h=>?_;refine iL h fun h=>?_;refine iL h fun h=>?_;refine iL h fun h=>?_;refine iL h fun h=>?_;refine iL h fun h=>?_;refine iL h fun h=>?_;refine iL h fun h=>?_;refine iL h fun h=>?_;refine iL h fun h=>?_;refine iL h fun h=>?_;refine iL h fun h=>?_;refine iL h fun h=>?_;refine cP h Qax p2 fun v25 h=>?_;refine iR h fun h=>?_;refine cP h Q8b p2 fun v28 h=>?_;refine iR h fun h=>?_;refine cP h Q2f p2 fun v31 h=>?_;cases h;exact (.p _)
def J0 (N:Nat):Nat->Int->(List Int)->Option (List Int)
 | 0,_,_=>none
 | n+1,a16,l17=>
  cond (Q4 .leq a16 157)
  (cond (Nat.ble ((l17.length+1+4096) * 8) 17592186044416) (J0 N n (wrap .i64 (a16+1)) (l17 ++ [a16])) none)
  (cond (Nat.ble ((l17.length+1+4096) * 8) 17592186044416) (some (l17 ++ [159])) none)
def Ux (N:Nat):Nat->Int->(List Int)->Option (List Int)
 | 0,_,_=>none
 | n+1,a6,l7=>
  cond (Q4 .leq a6 138)
  (cond (Nat.ble ((l7.length+1+4096) * 8) 17592186044416) (Ux N n (wrap .i64 (a6+1)) (l7 ++ [a6])) none)
  (cond (Nat.ble ((l7.length+4+4096) * 8) 17592186044416) (J0 N N 153 (l7 ++ [140,144,149,151])) none)
def J1 (N:Nat):Nat->Int->(List Int)->Option (List Int)
 | 0,_,_=>none
 | n+1,a42,l43=>
  cond (Q4 .leq a42 162)
  (cond (Nat.ble ((l43.length+1+4096) * 8) 17592186044416) (J1 N n (wrap .i64 (a42+1)) (l43 ++ [a42])) none)
  (some l43)
def J4 (N:Nat):Nat->Int->(List Int)->Option (List Int)
 | 0,_,_=>none
 | n+1,a32,l33=>
  cond (Q4 .leq a32 131)
  (cond (Nat.ble ((l33.length+1+4096) * 8) 17592186044416) (J4 N n (wrap .i64 (a32+1)) (l33 ++ [a32])) none)
  (cond (Nat.ble ((l33.length+7+4096) * 8) 17592186044416) (J1 N N 147 (l33 ++ [135,137,139,141,142,143,144])) none)
def Q0d (N:Nat) (kind:Int):Option (List Int):=
 cond (Q4 .eql kind 2)
 (Ux N N 128 [0])
 (cond (Q4 .eql kind 4)
 (some [0,16,128,131,135,144,145,151,153])
 (cond (Q4 .eql kind 5)
 (some [0,16,128,131,135,144,145,151,153])
 (cond (Q4 .eql kind 6)
 (some [0,146])
 (cond (Q4 .eql kind 7)
 (some [0,146])
 (cond (Q4 .eql kind 9)
 (some [0,1,2,128,131,135,143,145,151,158,161,162])
 (cond (Q4 .eql kind 11)
 (some [0,17,128,131,135,143,145])
 (cond (Q4 .eql kind 14)
 (J4 N N 128 [0,4])
 (cond (Q4 .eql kind 15)
 (some [0,24,25])
 (some [])))))))))
theorem Qbo {N} {kind} {r} (h:Q0d N kind=some r):pU 280 [.int .i64 kind] (.slice 1 (Q7 (cI .i64) r)):=by
 refine Q0 Zjp ?_;unfold Q0d at h;rw [cX] at h;apply iU h<;>intro h
 ·refine Zx Z5d ?_;refine lpC (τ:=Int×(List Int)) (fun ⟨a6,l7⟩=>(.slice 1 1 0 l7.length::iI a6::iI 138::a8 (a4 (a2 ([]))):List AV)) (fun ⟨_,l7⟩=>(.dead :: .cells (Q0g (cI .i64) l7) :: []:List AObj)) (fun n0 ⟨a6,l7⟩=>Ux N n0 a6 l7) (128,[0]) h (rho [0,0]) Yf fun n0 ⟨a6,l7⟩ h=>?_
  first | rw [Ux] at h | simp only [Ux] at h
  rw [cX] at h;apply iU h<;>intro h
  ·obtain ⟨hk9,h⟩:=Q48 h;refine Q0r (Zl (c:=(cI .i64)) (e:=1) (fun _=>rfl) sd hk9) ?_;refine Jv (c:=(cI .i64)) [a6] rfl ?_;show Exists _;exact ⟨(n0,(wrap .i64 (a6+1)),(l7 ++ [a6])),h,Le _,(rho [0,3]),Yf⟩
  obtain ⟨hk10,h⟩:=Q48 h;refine Q0r (Zl (c:=(cI .i64)) (e:=1) (fun _=>rfl) sd hk10) ?_;refine Jv (c:=(cI .i64)) [140,144,149,151] rfl ?_;refine Zx Z5d ?_;refine lpC (τ:=Int×(List Int)) (fun ⟨a16,l17⟩=>(.slice 1 4 0 l17.length::iI a16::iI 157::a8 (a4 (a2 ([]))):List AV)) (fun ⟨_,l17⟩=>(.dead :: .dead :: .cells (iI 140::iI 144::iI 149::iI 151 :: []) :: .dead :: .cells (Q0g (cI .i64) l17) :: []:List AObj)) (fun n1 ⟨a16,l17⟩=>J0 N n1 a16 l17) (153,(l7 ++ [140,144,149,151])) h (rho [0,1,2,3,3]) Yf fun n1 ⟨a16,l17⟩ h=>?_
  first | rw [J0] at h | simp only [J0] at h
  rw [cX] at h;apply iU h<;>intro h
  ·obtain ⟨hk19,h⟩:=Q48 h;refine Q0r (Zl (c:=(cI .i64)) (e:=1) (fun _=>rfl) sd hk19) ?_;refine Jv (c:=(cI .i64)) [a16] rfl ?_;show Exists _;exact ⟨(n1,(wrap .i64 (a16+1)),(l17 ++ [a16])),h,Le _,(rho [0,1,2,3,6]),Yf⟩
  obtain ⟨hk20,h⟩:=Q48 h;refine Q0r (Zl (c:=(cI .i64)) (e:=1) (fun _=>rfl) sd hk20) ?_;refine Jv (c:=(cI .i64)) [159] rfl ?_;obtain rfl:=Qi h;exact (frz_own (c:=(cI .i64)) (l:=((l17 ++ [159]):List Int)) (fun _=>rfl) rfl trivial sd)
 refine ifO h (fun hc21 h=>?_) (fun hc21 h=>?_)
 ·refine ifT hc21 ?_;obtain rfl:=Qi h;exact (frz_own (c:=(cI .i64)) (l:=([0,16,128,131,135,144,145,151,153]:List Int)) (fun _=>rfl) rfl trivial sd)
 apply iU h<;>intro h
 ·obtain rfl:=Qi h;exact (frz_own (c:=(cI .i64)) (l:=([0,16,128,131,135,144,145,151,153]:List Int)) (fun _=>rfl) rfl trivial sd)
 refine ifO h (fun hc23 h=>?_) (fun hc23 h=>?_)
 ·refine ifT hc23 ?_;obtain rfl:=Qi h;exact (frz_own (c:=(cI .i64)) (l:=([0,146]:List Int)) (fun _=>rfl) rfl trivial sd)
 apply iU h<;>intro h
 ·obtain rfl:=Qi h;exact (frz_own (c:=(cI .i64)) (l:=([0,146]:List Int)) (fun _=>rfl) rfl trivial sd)
 apply iU h<;>intro h
 ·obtain rfl:=Qi h;exact (frz_own (c:=(cI .i64)) (l:=([0,1,2,128,131,135,143,145,151,158,161,162]:List Int)) (fun _=>rfl) rfl trivial sd)
 apply iU h<;>intro h
 ·obtain rfl:=Qi h;exact (frz_own (c:=(cI .i64)) (l:=([0,17,128,131,135,143,145]:List Int)) (fun _=>rfl) rfl trivial sd)
 apply iU h<;>intro h
 ·refine Zx Z5d ?_;refine lpC (τ:=Int×(List Int)) (fun ⟨a32,l33⟩=>(.slice 1 1 0 l33.length::iI a32::iI 131::a8 (a4 (a2 ([]))):List AV)) (fun ⟨_,l33⟩=>(.dead :: .cells (Q0g (cI .i64) l33) :: []:List AObj)) (fun n2 ⟨a32,l33⟩=>J4 N n2 a32 l33) (128,[0,4]) h (rho [0,0]) Yf fun n2 ⟨a32,l33⟩ h=>?_
  first | rw [J4] at h | simp only [J4] at h
  rw [cX] at h;apply iU h<;>intro h
  ·obtain ⟨hk35,h⟩:=Q48 h;refine Q0r (Zl (c:=(cI .i64)) (e:=1) (fun _=>rfl) sd hk35) ?_;refine Jv (c:=(cI .i64)) [a32] rfl ?_;show Exists _;exact ⟨(n2,(wrap .i64 (a32+1)),(l33 ++ [a32])),h,Le _,(rho [0,3]),Yf⟩
  obtain ⟨hk36,h⟩:=Q48 h;refine Q0r (Zl (c:=(cI .i64)) (e:=1) (fun _=>rfl) sd hk36) ?_;refine Jv (c:=(cI .i64)) [135,137,139,141,142,143,144] rfl ?_;refine Zx Z5d ?_;refine lpC (τ:=Int×(List Int)) (fun ⟨a42,l43⟩=>(.slice 1 4 0 l43.length::iI a42::iI 162::a8 (a4 (a2 ([]))):List AV)) (fun ⟨_,l43⟩=>(.dead :: .dead :: .cells (iI 135::iI 137::iI 139::iI 141::iI 142::iI 143::iI 144 :: []) :: .dead :: .cells (Q0g (cI .i64) l43) :: []:List AObj)) (fun n3 ⟨a42,l43⟩=>J1 N n3 a42 l43) (147,(l33 ++ [135,137,139,141,142,143,144])) h (rho [0,1,2,3,3]) Yf fun n3 ⟨a42,l43⟩ h=>?_
  first | rw [J1] at h | simp only [J1] at h
  rw [cX] at h;apply iU h<;>intro h
  ·obtain ⟨hk45,h⟩:=Q48 h;refine Q0r (Zl (c:=(cI .i64)) (e:=1) (fun _=>rfl) sd hk45) ?_;refine Jv (c:=(cI .i64)) [a42] rfl ?_;show Exists _;exact ⟨(n3,(wrap .i64 (a42+1)),(l43 ++ [a42])),h,Le _,(rho [0,1,2,3,6]),Yf⟩
  obtain rfl:=Qi h;exact (frz_own (c:=(cI .i64)) (l:=(l43:List Int)) (fun _=>rfl) rfl trivial sd)
 apply iU h<;>intro h
 ·obtain rfl:=Qi h;exact (frz_own (c:=(cI .i64)) (l:=([0,24,25]:List Int)) (fun _=>rfl) rfl trivial sd)
 obtain rfl:=Qi h;exact (.nil _)
def W6 (N:Nat) (code:Int) (v1:List Int):Nat->Int->Option Bool
 | 0,_=>none
 | n+1,i12=>
  cond (Q4 .lss i12 ((Q7 (cI .i64) v1).length:Int))
  ((idx v1 i12).bind fun y14=>
  cond (Q4 .eql y14 code)
  (some true)
  (W6 N code v1 n (wrap .i64 (i12+1))))
  (some false)
def Qy (N:Nat) (kind:Int) (code:Int):Option Bool:=
 (Q0d N kind).bind fun v1=>
 W6 N code v1 N 0
theorem Yk {N} {kind} {code} {r} (h:Qy N kind code=some r):pU 186 [.int .i64 kind,.int .i64 code] (.bool r):=by
 refine Q0 Zir ?_;unfold Qy at h;refine cP h Qbo p1 fun v1 h=>?_;refine lpH (τ:=Int) (fun i12=>(.any::iI code::a2 (.any :: .p (.slice 1 (Q7 (cI .i64) v1))::iI i12::a8 (a4 (a2 ([])))):List AV)) (fun n0 i12=>W6 N code v1 n0 i12) (0) h fun n0 i12 h=>?_
 first | rw [W6] at h | simp only [W6] at h
 rw [cX] at h;refine iR h fun h=>?_;refine xR h fun y14 h=>?_;refine iL h fun h=>?_;show Exists _;exact ⟨(n0,(wrap .i64 (i12+1))),h,Le _,(fun i=>i),Yf⟩
def Zv (_N:Nat) (p:Q1) (s102:Bool):Option Bool:=
 cond s102
 (some false)
 (cond (!p.Session)
 (some true)
 (some (Q4 .eql p.Code 0)))
def Qt (_N:Nat) (p:Q1) (old120:Bool):Option Bool:=
 cond (!old120)
 (cond (Q4 .geq p.KeepAlive 0)
 (cond (Q4 .leq p.KeepAlive 65535)
 (cond (Q4 .geq p.Will.QoS 0)
 (some (Q4 .leq p.Will.QoS 2))
 (some false))
 (some false))
 (some false))
 (some false)
def Zs (N:Nat) (version:Int) (p:Q1) (s65:Bool):Option Bool:=
 cond s65
 (some false)
 (cond (Q4 .eql p.Kind 2)
 (cond (Q4 .eql version 4)
 ((Q0p N p.Code).bind fun v104=>
 cond (!v104)
 (Zv N p true)
 (cond (Q4 .eql version 5)
 ((Qy N 2 p.Code).bind fun v108=>
 Zv N p (!v108))
 (Zv N p false)))
 (cond (Q4 .eql version 5)
 ((Qy N 2 p.Code).bind fun v111=>
 Zv N p (!v111))
 (Zv N p false)))
 (cond (Q4 .eql version 4)
 (cond (Q1l .eql p.Client [])
 (cond (!p.Clean)
 (Qt N p true)
 (cond p.HasPass
 (Qt N p (!p.HasUser))
 (Qt N p false)))
 (cond p.HasPass
 (Qt N p (!p.HasUser))
 (Qt N p false)))
 (Qt N p false)))
def Z6 (N:Nat) (version:Int) (p:Q1) (s42:Bool):Option Bool:=
 cond s42
 (some false)
 (cond (Q4 .eql version 4)
 (cond (Q4 .gtr ((Q7 Q6.cells p.Props).length:Int) 0)
 (Zs N version p true)
 (Zs N version p (Q4 .gtr ((Q7 Q6.cells p.Will.Props).length:Int) 0)))
 (Zs N version p false))
def Uy (N:Nat) (version:Int) (p:Q1):Option Bool:=
 (Z7 N version).bind fun v43=>
 cond (!v43)
 (Z6 N version p true)
 (cond (Q4 .neq p.Kind 1)
 (cond (Q4 .neq p.Kind 2)
 (Z6 N version p true)
 ((V5 N version p).bind fun v48=>
 (Qk N p v48).bind fun v50=>
 Z6 N version p (!v50)))
 ((V5 N version p).bind fun v52=>
 (Qk N p v52).bind fun v54=>
 Z6 N version p (!v54)))
theorem Q94 {N} {version} {p} {r} (h:Uy N version p=some r):pU 176 [.int .i64 version,.agg (Q1.cells p)] (.bool r):=by
 refine Q0 Zdq ?_;unfold Uy at h;rw [cX] at h;refine Y1 ?_;refine Vl (σ:=Bool) (fun s42=>(iI version :: .any :: .any :: .ptr 0 0::a16 (a4 (a2 (.p (.bool s42)::a16 (a16 (a16 (a16 (a16 (a8 (.any :: []))))))))):List AV)) (fun _=>(.cells (Q2l p ([])) :: []:List AObj)) (fun s42=>Z6 N version p s42=some r) (fun _ _=>Lj _) ?_ ?_
 ·refine Ql ?_;refine cD h Y9 p1 fun v43 h=>?_;apply iU h<;>intro h
  ·show Exists _;exact ⟨(true),h,(fun i=>i),Yf⟩
  apply iU h<;>intro h
  ·apply iU h<;>intro h
   ·show Exists _;exact ⟨(true),h,(fun i=>i),Yf⟩
   refine cD h Q5s zd fun v48 h=>?_;refine cD h Qv (.cons zb p1) fun v50 h=>?_;show Exists _;exact ⟨((!v50)),h,(fun i=>i),Yf⟩
  refine cD h Q5s zd fun v52 h=>?_;refine cD h Qv (.cons zb p1) fun v54 h=>?_;show Exists _;exact ⟨((!v54)),h,(fun i=>i),Yf⟩
 rintro s42 h
 unfold Z6 at h;rw [cX] at h;refine iL h fun h=>?_;refine Y1 ?_;refine Vl (σ:=Bool) (fun s65=>(iI version :: .any :: .any :: .ptr 0 0::a16 (a16 (a4 (.any :: .p (.bool s65)::a16 (a16 (a16 (a16 (a8 (a2 ([]))))))))):List AV)) (fun _=>(.cells (Q2l p ([])) :: []:List AObj)) (fun s65=>Zs N version p s65=some r) (fun _ _=>Lj _) ?_ ?_
 ·apply iU h<;>intro h
  ·apply iU h<;>intro h
   ·show Exists _;exact ⟨(true),h,(fun i=>i),Yf⟩
   show Exists _;exact ⟨((Qmr .gtr ((Q7 Q6.cells p.Will.Props).length:Int) 0)),h,(fun i=>i),Yf⟩
  show Exists _;exact ⟨(false),h,(fun i=>i),Yf⟩
 rintro s65 h
 unfold Zs at h;rw [cX,cY] at h;refine iL h fun h=>?_;apply iU h<;>intro h
 ·refine Y1 ?_;refine Vl (σ:=Bool) (fun s102=>(a2 (.any :: .ptr 0 0::a16 (a16 (a16 (a8 (a2 (.p (.bool s102)::a16 (a16 (a16 (a4 (.any :: [])))))))))):List AV)) (fun _=>(.cells (Q2l p ([])) :: []:List AObj)) (fun s102=>Zv N p s102=some r) (fun _ _=>Lj _) ?_ ?_
  ·apply iU h<;>intro h
   ·refine cP h Q8z p1 fun v104 h=>?_;apply iU h<;>intro h
    ·show Exists _;exact ⟨(true),h,(fun i=>i),Yf⟩
    apply iU h<;>intro h
    ·refine cP h Yk p2 fun v108 h=>?_;show Exists _;exact ⟨((!v108)),h,(fun i=>i),Yf⟩
    show Exists _;exact ⟨(false),h,(fun i=>i),Yf⟩
   apply iU h<;>intro h
   ·refine cP h Yk p2 fun v111 h=>?_;show Exists _;exact ⟨((!v111)),h,(fun i=>i),Yf⟩
   show Exists _;exact ⟨(false),h,(fun i=>i),Yf⟩
  rintro s102 h
  unfold Zv at h;rw [cX] at h;refine iL h fun h=>?_;exact iB h
 refine Vl (σ:=Bool) (fun old120=>(a2 (.any :: .ptr 0 0 :: .any :: .p (.bool old120)::a16 (a16 (a16 (a16 (a16 (a16 (a8 (a4 (a2 ([])))))))))):List AV)) (fun _=>(.cells (Q2l p ([])) :: []:List AObj)) (fun old120=>Qt N p old120=some r) (fun _ _=>Lj _) ?_ ?_
 ·apply iU h<;>intro h
  ·apply iU h<;>intro h
   ·apply iU h<;>intro h
    ·show Exists _;exact ⟨(true),h,(fun i=>i),Yf⟩
    apply iU h<;>intro h
    ·show Exists _;exact ⟨((!p.HasUser)),h,(fun i=>i),Yf⟩
    show Exists _;exact ⟨(false),h,(fun i=>i),Yf⟩
   apply iU h<;>intro h
   ·show Exists _;exact ⟨((!p.HasUser)),h,(fun i=>i),Yf⟩
   show Exists _;exact ⟨(false),h,(fun i=>i),Yf⟩
  show Exists _;exact ⟨(false),h,(fun i=>i),Yf⟩
 rintro old120 h
 unfold Qt at h;rw [cX] at h;refine iR h fun h=>?_;refine iR h fun h=>?_;refine iR h fun h=>?_;exact iB h
def W7 (N:Nat) (l:List Q6) (id:Int):Nat->Int->Option (Q6×Bool)
 | 0,_=>none
 | n+1,i14=>
  cond (Q4 .lss i14 ((Q7 Q6.cells l).length:Int))
  ((idx l i14).bind fun y16=>
  cond (Q4 .eql y16.ID id)
  ((idx l i14).bind fun y19=>
  some (y19,true))
  (W7 N l id n (wrap .i64 (i14+1))))
  (some ((⟨0,0,[],[]⟩:Q6),false))
def Wp (N:Nat) (l:List Q6) (id:Int):Option (Q6×Bool):=
 W7 N l id N 0
theorem Q0o {N} {l} {id} {r} (h:Wp N l id=some r):pU 226 [.slice 4 (Q7 Q6.cells l),.int .i64 id] (.tuple [.agg (Q6.cells r.1),.bool r.2]):=by
 refine Q0 Zoy ?_;unfold Wp at h;refine lpH (τ:=Int) (fun i14=>(.p (.slice 4 (Q7 Q6.cells l))::iI id :: .any :: .any :: .ptr 0 0 :: .any::iI i14::a16 (a2 ([])):List AV)) (fun n0 i14=>W7 N l id n0 i14) (0) h fun n0 i14 h=>?_
 first | rw [W7] at h | simp only [W7] at h
 rw [cX] at h;apply iU h<;>intro h
 ·refine xR h fun y16 h=>?_;apply iU h<;>intro h
  ·refine xR h fun y19 h=>?_;obtain rfl:=Qi h;exact (Aq (.cons q4 p1))
  show Exists _;exact ⟨(n0,(wrap .i64 (i14+1))),h,Le _,(fun i=>i),Yf⟩
 obtain rfl:=Qi h;exact (Aq (.cons q4 p1))
def W0 (_N:Nat) (id:Int):Option (Qc):=
 cond (Q4 .eql id 1)
 (some (⟨1,[3,16],0,1⟩:Qc))
 (cond (Q4 .eql id 2)
 (some (⟨3,[3,16],0,4294967295⟩:Qc))
 (cond (Q4 .eql id 3)
 (some (⟨5,[3,16],0,0⟩:Qc))
 (cond (Q4 .eql id 8)
 (some (⟨5,[3,16],0,0⟩:Qc))
 (cond (Q4 .eql id 9)
 (some (⟨6,[3,16],0,0⟩:Qc))
 (cond (Q4 .eql id 11)
 (some (⟨4,[3,8],1,268435455⟩:Qc))
 (cond (Q4 .eql id 17)
 (some (⟨3,[1,2,14],0,4294967295⟩:Qc))
 (cond (Q4 .eql id 18)
 (some (⟨5,[2],0,0⟩:Qc))
 (cond (Q4 .eql id 26)
 (some (⟨5,[2],0,0⟩:Qc))
 (cond (Q4 .eql id 19)
 (some (⟨2,[2],0,65535⟩:Qc))
 (cond (Q4 .eql id 21)
 (some (⟨5,[1,2,15],0,0⟩:Qc))
 (cond (Q4 .eql id 22)
 (some (⟨6,[1,2,15],0,0⟩:Qc))
 (cond (Q4 .eql id 23)
 (some (⟨1,[1],0,1⟩:Qc))
 (cond (Q4 .eql id 25)
 (some (⟨1,[1],0,1⟩:Qc))
 (cond (Q4 .eql id 24)
 (some (⟨3,[16],0,4294967295⟩:Qc))
 (cond (Q4 .eql id 28)
 (some (⟨5,[2,14],0,0⟩:Qc))
 (cond (Q4 .eql id 31)
 (some (⟨5,[2,4,5,6,7,9,11,14,15],0,0⟩:Qc))
 (cond (Q4 .eql id 33)
 (some (⟨2,[1,2],1,65535⟩:Qc))
 (cond (Q4 .eql id 34)
 (some (⟨2,[1,2],0,65535⟩:Qc))
 (cond (Q4 .eql id 35)
 (some (⟨2,[3],1,65535⟩:Qc))
 (cond (Q4 .eql id 36)
 (some (⟨1,[2],0,1⟩:Qc))
 (cond (Q4 .eql id 37)
 (some (⟨1,[2],0,1⟩:Qc))
 (cond (Q4 .eql id 40)
 (some (⟨1,[2],0,1⟩:Qc))
 (cond (Q4 .eql id 41)
 (some (⟨1,[2],0,1⟩:Qc))
 (cond (Q4 .eql id 42)
 (some (⟨1,[2],0,1⟩:Qc))
 (cond (Q4 .eql id 38)
 (some (⟨7,[1,2,3,4,5,6,7,8,9,10,11,14,15,16],0,0⟩:Qc))
 (cond (Q4 .eql id 39)
 (some (⟨3,[1,2],1,4294967295⟩:Qc))
 (some (⟨0,[],0,0⟩:Qc))))))))))))))))))))))))))))
theorem Q00 {N} {id} {r} (h:W0 N id=some r):pU 225 [.int .i64 id] (.agg (Qc.cells r)):=by
 refine Q0 Zj8 ?_;unfold W0 at h;rw [cX] at h;apply iU h<;>intro h
 ·refine Zx Qyx ?_;obtain rfl:=Qi h;exact (Ap (.cons (.p _) (.cons (frz_own (c:=(cI .i64)) (l:=([3,16]:List Int)) (fun _=>rfl) rfl trivial sd) p2)))
 apply iU h<;>intro h
 ·refine Zx Z7f ?_;obtain rfl:=Qi h;exact (Ap (.cons (.p _) (.cons (frz_own (c:=(cI .i64)) (l:=([3,16]:List Int)) (fun _=>rfl) rfl trivial sd) p2)))
 refine ifO h (fun hc3 h=>?_) (fun hc3 h=>?_)
 ·refine ifT hc3 ?_;refine Zx Qwu ?_;obtain rfl:=Qi h;exact (Ap (.cons (.p _) (.cons (frz_own (c:=(cI .i64)) (l:=([3,16]:List Int)) (fun _=>rfl) rfl trivial sd) p2)))
 apply iU h<;>intro h
 ·refine Zx Qwu ?_;obtain rfl:=Qi h;exact (Ap (.cons (.p _) (.cons (frz_own (c:=(cI .i64)) (l:=([3,16]:List Int)) (fun _=>rfl) rfl trivial sd) p2)))
 apply iU h<;>intro h
 ·refine Zx Qwu ?_;obtain rfl:=Qi h;exact (Ap (.cons (.p _) (.cons (frz_own (c:=(cI .i64)) (l:=([3,16]:List Int)) (fun _=>rfl) rfl trivial sd) p2)))
 apply iU h<;>intro h
 ·obtain rfl:=Qi h;exact (Ap (.cons (.p _) (.cons (frz_own (c:=(cI .i64)) (l:=([3,8]:List Int)) (fun _=>rfl) rfl trivial sd) p2)))
 apply iU h<;>intro h
 ·refine Zx Z7f ?_;obtain rfl:=Qi h;exact (Ap (.cons (.p _) (.cons (frz_own (c:=(cI .i64)) (l:=([1,2,14]:List Int)) (fun _=>rfl) rfl trivial sd) p2)))
 refine ifO h (fun hc8 h=>?_) (fun hc8 h=>?_)
 ·refine ifT hc8 ?_;refine Zx Qwu ?_;obtain rfl:=Qi h;exact (Ap (.cons (.p _) (.cons (frz_own (c:=(cI .i64)) (l:=([2]:List Int)) (fun _=>rfl) rfl trivial sd) p2)))
 apply iU h<;>intro h
 ·refine Zx Qwu ?_;obtain rfl:=Qi h;exact (Ap (.cons (.p _) (.cons (frz_own (c:=(cI .i64)) (l:=([2]:List Int)) (fun _=>rfl) rfl trivial sd) p2)))
 apply iU h<;>intro h
 ·refine Zx Z4y ?_;obtain rfl:=Qi h;exact (Ap (.cons (.p _) (.cons (frz_own (c:=(cI .i64)) (l:=([2]:List Int)) (fun _=>rfl) rfl trivial sd) p2)))
 apply iU h<;>intro h
 ·refine Zx Qwu ?_;obtain rfl:=Qi h;exact (Ap (.cons (.p _) (.cons (frz_own (c:=(cI .i64)) (l:=([1,2,15]:List Int)) (fun _=>rfl) rfl trivial sd) p2)))
 apply iU h<;>intro h
 ·refine Zx Qwu ?_;obtain rfl:=Qi h;exact (Ap (.cons (.p _) (.cons (frz_own (c:=(cI .i64)) (l:=([1,2,15]:List Int)) (fun _=>rfl) rfl trivial sd) p2)))
 refine ifO h (fun hc13 h=>?_) (fun hc13 h=>?_)
 ·refine ifT hc13 ?_;refine Zx Qyx ?_;obtain rfl:=Qi h;exact (Ap (.cons (.p _) (.cons (frz_own (c:=(cI .i64)) (l:=([1]:List Int)) (fun _=>rfl) rfl trivial sd) p2)))
 apply iU h<;>intro h
 ·refine Zx Qyx ?_;obtain rfl:=Qi h;exact (Ap (.cons (.p _) (.cons (frz_own (c:=(cI .i64)) (l:=([1]:List Int)) (fun _=>rfl) rfl trivial sd) p2)))
 apply iU h<;>intro h
 ·refine Zx Z7f ?_;obtain rfl:=Qi h;exact (Ap (.cons (.p _) (.cons (frz_own (c:=(cI .i64)) (l:=([16]:List Int)) (fun _=>rfl) rfl trivial sd) p2)))
 apply iU h<;>intro h
 ·refine Zx Qwu ?_;obtain rfl:=Qi h;exact (Ap (.cons (.p _) (.cons (frz_own (c:=(cI .i64)) (l:=([2,14]:List Int)) (fun _=>rfl) rfl trivial sd) p2)))
 apply iU h<;>intro h
 ·refine Zx Qwu ?_;obtain rfl:=Qi h;exact (Ap (.cons (.p _) (.cons (frz_own (c:=(cI .i64)) (l:=([2,4,5,6,7,9,11,14,15]:List Int)) (fun _=>rfl) rfl trivial sd) p2)))
 apply iU h<;>intro h
 ·refine Zx Z4y ?_;obtain rfl:=Qi h;exact (Ap (.cons (.p _) (.cons (frz_own (c:=(cI .i64)) (l:=([1,2]:List Int)) (fun _=>rfl) rfl trivial sd) p2)))
 apply iU h<;>intro h
 ·refine Zx Z4y ?_;obtain rfl:=Qi h;exact (Ap (.cons (.p _) (.cons (frz_own (c:=(cI .i64)) (l:=([1,2]:List Int)) (fun _=>rfl) rfl trivial sd) p2)))
 apply iU h<;>intro h
 ·refine Zx Z4y ?_;obtain rfl:=Qi h;exact (Ap (.cons (.p _) (.cons (frz_own (c:=(cI .i64)) (l:=([3]:List Int)) (fun _=>rfl) rfl trivial sd) p2)))
 refine ifO h (fun hc21 h=>?_) (fun hc21 h=>?_)
 ·refine ifT hc21 ?_;refine Zx Qyx ?_;obtain rfl:=Qi h;exact (Ap (.cons (.p _) (.cons (frz_own (c:=(cI .i64)) (l:=([2]:List Int)) (fun _=>rfl) rfl trivial sd) p2)))
 refine ifO h (fun hc22 h=>?_) (fun hc22 h=>?_)
 ·refine ifT hc22 ?_;refine Zx Qyx ?_;obtain rfl:=Qi h;exact (Ap (.cons (.p _) (.cons (frz_own (c:=(cI .i64)) (l:=([2]:List Int)) (fun _=>rfl) rfl trivial sd) p2)))
 refine ifO h (fun hc23 h=>?_) (fun hc23 h=>?_)
 ·refine ifT hc23 ?_;refine Zx Qyx ?_;obtain rfl:=Qi h;exact (Ap (.cons (.p _) (.cons (frz_own (c:=(cI .i64)) (l:=([2]:List Int)) (fun _=>rfl) rfl trivial sd) p2)))
 refine ifO h (fun hc24 h=>?_) (fun hc24 h=>?_)
 ·refine ifT hc24 ?_;refine Zx Qyx ?_;obtain rfl:=Qi h;exact (Ap (.cons (.p _) (.cons (frz_own (c:=(cI .i64)) (l:=([2]:List Int)) (fun _=>rfl) rfl trivial sd) p2)))
 apply iU h<;>intro h
 ·refine Zx Qyx ?_;obtain rfl:=Qi h;exact (Ap (.cons (.p _) (.cons (frz_own (c:=(cI .i64)) (l:=([2]:List Int)) (fun _=>rfl) rfl trivial sd) p2)))
 apply iU h<;>intro h
 ·refine Zx Qwu ?_;obtain rfl:=Qi h;exact (Ap (.cons (.p _) (.cons (frz_own (c:=(cI .i64)) (l:=([1,2,3,4,5,6,7,8,9,10,11,14,15,16]:List Int)) (fun _=>rfl) rfl trivial sd) p2)))
 apply iU h<;>intro h
 ·refine Zx Z7f ?_;obtain rfl:=Qi h;exact (Ap (.cons (.p _) (.cons (frz_own (c:=(cI .i64)) (l:=([1,2]:List Int)) (fun _=>rfl) rfl trivial sd) p2)))
 obtain rfl:=Qi h;exact (Ap (.cons (.p _) (.cons (.nil _) p2)))
def X5 (N:Nat) (kind:Int) (v1:Qc):Nat->Int->Option Bool
 | 0,_=>none
 | n+1,i12=>
  cond (Q4 .lss i12 ((Q7 (cI .i64) v1.kinds).length:Int))
  ((idx v1.kinds i12).bind fun y14=>
  cond (Q4 .eql y14 kind)
  (some true)
  (X5 N kind v1 n (wrap .i64 (i12+1))))
  (some false)
def J6 (N:Nat) (kind:Int) (id:Int):Option Bool:=
 (W0 N id).bind fun v1=>
 X5 N kind v1 N 0
theorem Q64 {N} {kind} {id} {r} (h:J6 N kind id=some r):pU 224 [.int .i64 kind,.int .i64 id] (.bool r):=by
 refine Q0 Zn7 ?_;unfold J6 at h;refine cP h Q00 p1 fun v1 h=>?_;refine lpH (τ:=Int) (fun i12=>(iI kind::a4 (.p (.slice 1 (Q7 (cI .i64) v1.kinds))::iI i12::a8 (a4 (a2 (.any :: [])))):List AV)) (fun n0 i12=>X5 N kind v1 n0 i12) (0) h fun n0 i12 h=>?_
 first | rw [X5] at h | simp only [X5] at h
 rw [cX] at h;refine iR h fun h=>?_;refine xR h fun y14 h=>?_;refine iL h fun h=>?_;show Exists _;exact ⟨(n0,(wrap .i64 (i12+1))),h,Le _,(fun i=>i),Yf⟩
def Gt (N:Nat) (kind:Int) (id:Int):Option Bool:=
 (J6 N kind id).bind fun v1=>
 cond v1
 (cond (Q4 .eql id 38)
 (some true)
 (cond (Q4 .eql id 11)
 (some (Q4 .eql kind 3))
 (some false)))
 (some false)
theorem Qa5 {N} {kind} {id} {r} (h:Gt N kind id=some r):pU 227 [.int .i64 kind,.int .i64 id] (.bool r):=by
 refine Q0 Zdg ?_;unfold Gt at h;rw [cX] at h;refine cP h Q64 p2 fun v1 h=>?_;refine iR h fun h=>?_;refine iL h fun h=>?_;exact iB h
def G0 (N:Nat) (kind:Int) (l:List Q6) (id:Int):Option Bool:=
 (Wp N l id).bind fun v1=>
 cond v1.2
 ((Gt N kind id).bind fun v4=>
 some (!v4))
 (some false)
theorem Q97 {N} {kind} {l} {id} {r} (h:G0 N kind l id=some r):pU 152 [.int .i64 kind,.slice 4 (Q7 Q6.cells l),.int .i64 id] (.bool r):=by
 refine Q0 Zes ?_;unfold G0 at h;refine cP h Q0o p2 fun v1 h=>?_;refine iR h fun h=>?_;refine cP h Qa5 p2 fun v4 h=>?_;cases h;exact (.p _)
def Q1n (N:Nat) (l:List Q6):Option Bool:=
 (Wp N l 22).bind fun v1=>
 (Wp N l 21).bind fun v3=>
 cond v1.2
 (some (!v3.2))
 (some false)
theorem Qb5 {N} {l} {r} (h:Q1n N l=some r):pU 153 [.slice 4 (Q7 Q6.cells l)] (.bool r):=by
 refine Q0 Zaj ?_;unfold Q1n at h;refine cP h Q0o p2 fun v1 h=>?_;refine cP h Q0o p2 fun v3 h=>?_;exact iB h
def Ym (N:Nat) (n_0:Int):Nat->Int->(List Int)->Option (List UInt8)
 | 0,_,_=>none
 | n+1,i11,l12=>
  cond (Q4 .geq i11 0)
  (cond (Q4 .lss i11 8)
  (cond (decide (0≤(wrap .u64 (wrap .i64 (8 * i11))))) (cond (Nat.ble ((l12.length+1+4096) * 1) 17592186044416) (Ym N n_0 n (wrap .i64 (i11 - 1)) (l12 ++ [(wrap .u8 (Qdb .u64 n_0 (wrap .u64 (wrap .i64 (8 * i11)))))])) none) none)
  (cond (Nat.ble ((l12.length+1+4096) * 1) 17592186044416) (Ym N n_0 n (wrap .i64 (i11 - 1)) (l12 ++ [0])) none))
  (some (l12.map fun n=>UInt8.ofNat n.toNat))
def Zj (N:Nat) (n_0:Int) (size:Int):Option (List UInt8):=
 Ym N n_0 N (wrap .i64 ((ifB (decide ((ifB (decide (16<size)) 16 size)>0)) (ifB (decide (16<size)) 16 size) 0) - 1)) []
theorem Y6 {N} {n_0} {size} {r} (h:Zj N n_0 size=some r):pU 110 [.int .u64 n_0,.int .i64 size] (.str r):=by
 refine Q0 Zhd ?_;unfold Zj at h;refine lpA (τ:=Int×(List Int)) (fun ⟨i11,l12⟩=>(iW n_0::a4 (.slice 1 0 0 l12.length::iI i11::a16 (a4 (a2 (.any :: [])))):List AV)) (fun ⟨_,l12⟩=>(.cells (Q0g (cI .u8) l12) :: []:List AObj)) (fun n0 ⟨i11,l12⟩=>Ym N n_0 n0 i11 l12) ((wrap .i64 ((ifB (decide ((ifB (decide (16<size)) 16 size)>0)) (ifB (decide (16<size)) 16 size) 0) - 1)),[]) h fun n0 ⟨i11,l12⟩ h=>?_
 first | rw [Ym] at h | simp only [Ym] at h
 rw [cX] at h;apply iU h<;>intro h
 ·apply iU h<;>intro h
  ·refine kU h fun h=>?_;obtain ⟨hk16,h⟩:=Q48 h;refine Q0r (Zl (c:=(cI .u8)) (e:=1) (fun _=>rfl) sd hk16) ?_;refine Jv (c:=(cI .u8)) [(wrap .u8 (Qdb .u64 n_0 (wrap .u64 (wrap .i64 (8 * i11)))))] rfl ?_;show Exists _;exact ⟨(n0,(wrap .i64 (i11 - 1)),(l12 ++ [(wrap .u8 (Qdb .u64 n_0 (wrap .u64 (wrap .i64 (8 * i11)))))])),h,Le _,(rho [2]),Yf⟩
  obtain ⟨hk17,h⟩:=Q48 h;refine Q0r (Zl (c:=(cI .u8)) (e:=1) (fun _=>rfl) sd hk17) ?_;refine Jv (c:=(cI .u8)) [0] rfl ?_;show Exists _;exact ⟨(n0,(wrap .i64 (i11 - 1)),(l12 ++ [0])),h,Le _,(rho [2]),Yf⟩
 refine Qjr (l:=l12) (n:=l12.length) sd ?_;cases h;exact (.p _)
def W8 (N:Nat) (s_0:List UInt8):Option ((List UInt8)×Int):=
 cond (Q4 .gtr (s_0.length:Int) 65535)
 (some ([],2))
 ((Zj N (wrap .u64 (s_0.length:Int)) 2).bind fun v2=>
 cond (Nat.ble (v2.length+s_0.length) 4611686018427387904) (some ((v2++s_0),0)) none)
theorem Q1h {N} {s_0} {r} (h:W8 N s_0=some r):pU 282 [.str s_0] (.tuple [.str r.1,.int .i64 r.2]):=by
 refine Q0 Zoi ?_;unfold W8 at h;rw [cX] at h;refine iL2 h fun h=>?_;refine cP h Y6 p2 fun v2 h=>?_;refine kU h fun h=>?_;obtain rfl:=Qi h;exact u2
def Gk (_N:Nat) (n_0:Int):Option Int:=
 cond (Q4 .lss n_0 0)
 (some 0)
 (cond (Q4 .gtr n_0 268435455)
 (some 0)
 (cond (Q4 .lss n_0 128)
 (some 1)
 (cond (Q4 .lss n_0 16384)
 (some 2)
 (cond (Q4 .lss n_0 2097152)
 (some 3)
 (some 4)))))
theorem Qat {N} {n_0} {r} (h:Gk N n_0=some r):pU 165 [.int .i64 n_0] (.int .i64 r):=by
 refine Q0 Zah ?_;unfold Gk at h;rw [cX] at h;refine iL h fun h=>?_;refine iL h fun h=>?_;refine iL h fun h=>?_;refine iL h fun h=>?_;exact iB h
def Y4 (N:Nat) (v1:Int):Nat->Int->Int->(List Int)->Option ((List UInt8)×Int)
 | 0,_,_,_=>none
 | n+1,n13,i14,l15=>
  cond (Q4 .lss i14 v1)
  (cond (Q4 .lss (wrap .i64 (i14+1)) v1)
  (cond (Nat.ble ((l15.length+1+4096) * 1) 17592186044416) (Y4 N v1 n (wrap .i64 ((n13:Int).tdiv 128)) (wrap .i64 (i14+1)) (l15 ++ [(wrap .u8 ((wrap .u8 ((n13:Int).tmod 128))+128))])) none)
  (cond (Nat.ble ((l15.length+1+4096) * 1) 17592186044416) (Y4 N v1 n (wrap .i64 ((n13:Int).tdiv 128)) (wrap .i64 (i14+1)) (l15 ++ [(wrap .u8 ((n13:Int).tmod 128))])) none))
  (some ((l15.map fun n=>UInt8.ofNat n.toNat),0))
def Wn (N:Nat) (n_0:Int):Option ((List UInt8)×Int):=
 (Gk N n_0).bind fun v1=>
 cond (Q4 .eql v1 0)
 (some ([],2))
 (Y4 N v1 N n_0 0 [])
theorem Q1w {N} {n_0} {r} (h:Wn N n_0=some r):pU 109 [.int .i64 n_0] (.tuple [.str r.1,.int .i64 r.2]):=by
 refine Q0 Zhp ?_;unfold Wn at h;rw [cX] at h;refine cP h Qat p1 fun v1 h=>?_;refine iL2 h fun h=>?_;refine lpA (τ:=Int×Int×(List Int)) (fun ⟨n13,i14,l15⟩=>(iI n13::a2 (.any::iI v1 :: .slice 1 0 0 l15.length::iI i14::a16 (a8 (a2 (.any :: [])))):List AV)) (fun ⟨_,_,l15⟩=>(.cells (Q0g (cI .u8) l15) :: []:List AObj)) (fun n0 ⟨n13,i14,l15⟩=>Y4 N v1 n0 n13 i14 l15) (n_0,0,[]) h fun n0 ⟨n13,i14,l15⟩ h=>?_
 first | rw [Y4] at h | simp only [Y4] at h
 rw [cX] at h;apply iU h<;>intro h
 ·apply iU h<;>intro h
  ·obtain ⟨hk18,h⟩:=Q48 h;refine Q0r (Zl (c:=(cI .u8)) (e:=1) (fun _=>rfl) sd hk18) ?_;refine Jv (c:=(cI .u8)) [(wrap .u8 ((wrap .u8 ((n13:Int).tmod 128))+128))] rfl ?_;show Exists _;exact ⟨(n0,(wrap .i64 ((n13:Int).tdiv 128)),(wrap .i64 (i14+1)),(l15 ++ [(wrap .u8 ((wrap .u8 ((n13:Int).tmod 128))+128))])),h,Le _,(rho [2]),Yf⟩
  obtain ⟨hk19,h⟩:=Q48 h;refine Q0r (Zl (c:=(cI .u8)) (e:=1) (fun _=>rfl) sd hk19) ?_;refine Jv (c:=(cI .u8)) [(wrap .u8 ((n13:Int).tmod 128))] rfl ?_;show Exists _;exact ⟨(n0,(wrap .i64 ((n13:Int).tdiv 128)),(wrap .i64 (i14+1)),(l15 ++ [(wrap .u8 ((n13:Int).tmod 128))])),h,Le _,(rho [2]),Yf⟩
 refine Qjr (l:=l15) (n:=l15.length) sd ?_;obtain rfl:=Qi h;exact u2
def Ju (N:Nat) (p:Q6):Option (List UInt8):=
 (W0 N p.ID).bind fun v1=>
 cond (Q4 .eql v1.shape 1)
 ((Zj N (wrap .u64 p.N') 1).bind fun v4=>
 some v4)
 (cond (Q4 .eql v1.shape 2)
 ((Zj N (wrap .u64 p.N') 2).bind fun v7=>
 some v7)
 (cond (Q4 .eql v1.shape 3)
 ((Zj N (wrap .u64 p.N') 4).bind fun v10=>
 some v10)
 (cond (Q4 .eql v1.shape 4)
 ((Wn N (wrap .i64 p.N')).bind fun v13=>
 some v13.1)
 ((W8 N p.Text).bind fun v15=>
 (W0 N p.ID).bind fun v17=>
 cond (Q4 .eql v17.shape 7)
 ((W8 N p.Value).bind fun v20=>
 cond (Nat.ble (v15.1.length+v20.1.length) 4611686018427387904) (some (v15.1++v20.1)) none)
 (some v15.1)))))
theorem Q9k {N} {p} {r} (h:Ju N p=some r):pU 228 [.agg (Q6.cells p)] (.str r):=by
 refine Q0 Zed ?_;unfold Ju at h;rw [cX] at h;refine cP h Q00 p1 fun v1 h=>?_;apply iU h<;>intro h
 ·refine cP h Y6 p2 fun v4 h=>?_;cases h;exact (.p _)
 apply iU h<;>intro h
 ·refine cP h Y6 p2 fun v7 h=>?_;cases h;exact (.p _)
 apply iU h<;>intro h
 ·refine cP h Y6 p2 fun v10 h=>?_;cases h;exact (.p _)
 apply iU h<;>intro h
 ·refine cP h Q1w p1 fun v13 h=>?_;cases h;exact (.p _)
 refine cP h Q1h p1 fun v15 h=>?_;refine cP h Q00 p1 fun v17 h=>?_;refine iR h fun h=>?_;refine cP h Q1h p1 fun v20 h=>?_;refine kU h fun h=>?_;cases h;exact (.p _)
def Xq (N:Nat) (l:List Q6):Nat->(List UInt8)->Int->Option (List UInt8)
 | 0,_,_=>none
 | n+1,out21,i22=>
  cond (Q4 .lss i22 ((Q7 Q6.cells l).length:Int))
  ((idx l i22).bind fun y24=>
  cond (Nat.ble (out21.length + [UInt8.ofNat (wrap .u8 y24.ID).toNat].length) 4611686018427387904) ((idx l i22).bind fun y27=>
  (Ju N y27).bind fun v29=>
  cond (Nat.ble ((out21 ++ [UInt8.ofNat (wrap .u8 y24.ID).toNat]).length+v29.length) 4611686018427387904) (Xq N l n ((out21 ++ [UInt8.ofNat (wrap .u8 y24.ID).toNat])++v29) (wrap .i64 (i22+1))) none) none)
  (some out21)
def Uo (N:Nat) (l:List Q6):Option (List UInt8):=
 Xq N l N [] 0
theorem Q5v {N} {l} {r} (h:Uo N l=some r):pU 154 [.slice 4 (Q7 Q6.cells l)] (.str r):=by
 refine Q0 Zhz ?_;unfold Uo at h;refine lpH (τ:=(List UInt8)×Int) (fun ⟨out21,i22⟩=>(.p (.slice 4 (Q7 Q6.cells l)) :: .any :: .any::iS out21::iI i22::a16 (a4 (a2 (.any :: []))):List AV)) (fun n0 ⟨out21,i22⟩=>Xq N l n0 out21 i22) ([],0) h fun n0 ⟨out21,i22⟩ h=>?_
 first | rw [Xq] at h | simp only [Xq] at h
 rw [cX] at h;refine iR h fun h=>?_;refine Ql ?_;refine xR h fun y24 h=>?_;refine kU h fun h=>?_;refine xR h fun y27 h=>?_;refine cD h Q9k (.cons q4 .nil) fun v29 h=>?_;refine kU h fun h=>?_;show Exists _;exact ⟨(n0,((out21 ++ [UInt8.ofNat (wrap .u8 y24.ID).toNat])++v29),(wrap .i64 (i22+1))),h,Le _,(fun i=>i),Yf⟩
def Ya (_N:Nat) (s_0:List UInt8) (at_1:Int):Option (Int×Bool):=
 cond (Q4 .geq at_1 (s_0.length:Int))
 (some (0,false))
 ((idx s_0 at_1).bind fun b2=>
 cond (Q4 .lss (b2.toNat:Int) 128)
 (some (0,false))
 ((idx s_0 at_1).bind fun b5=>
 cond (Q4 .gtr (b5.toNat:Int) 191)
 (some (0,false))
 ((idx s_0 at_1).bind fun b8=>
 some ((wrap .i64 ((wrap .i64 (b8.toNat:Int)) - 128)),true))))
theorem Xu {N} {s_0} {at_1} {r} (h:Ya N s_0 at_1=some r):pU 381 [.str s_0,.int .i64 at_1] (.tuple [.int .i64 r.1,.bool r.2]):=by
 refine Q0 Zog ?_;unfold Ya at h;rw [cX] at h;refine iL2 h fun h=>?_;refine xB h fun b2 h=>?_;refine iL2 h fun h=>?_;refine xB h fun b5 h=>?_;refine iL2 h fun h=>?_;refine xB h fun b8 h=>?_;obtain rfl:=Qi h;exact u2
def Zc (N:Nat) (s_0:List UInt8) (at_1:Int):Nat->Int->Int->Option (Int×Int)
 | 0,_,_=>none
 | n+1,n15,i17=>
  cond (Q4 .lss i17 2)
  ((Ya N s_0 (wrap .i64 (at_1+i17))).bind fun v19=>
  cond (!v19.2)
  (some (0,0))
  (Zc N s_0 at_1 n (wrap .i64 ((wrap .i64 (64 * n15))+v19.1)) (wrap .i64 (i17+1))))
  (cond (Q4 .lss n15 128)
  (some (0,0))
  (cond (Q4 .gtr n15 1114111)
  (some (0,0))
  (cond (Q4 .geq n15 55296)
  (cond (Q4 .leq n15 57343)
  (some (0,0))
  (some (n15,2)))
  (some (n15,2)))))
def Ze (N:Nat) (s_0:List UInt8) (at_1:Int):Nat->Int->Int->Option (Int×Int)
 | 0,_,_=>none
 | n+1,n38,i39=>
  cond (Q4 .lss i39 3)
  ((Ya N s_0 (wrap .i64 (at_1+i39))).bind fun v41=>
  cond (!v41.2)
  (some (0,0))
  (Ze N s_0 at_1 n (wrap .i64 ((wrap .i64 (64 * n38))+v41.1)) (wrap .i64 (i39+1))))
  (cond (Q4 .lss n38 2048)
  (some (0,0))
  (cond (Q4 .gtr n38 1114111)
  (some (0,0))
  (cond (Q4 .geq n38 55296)
  (cond (Q4 .leq n38 57343)
  (some (0,0))
  (some (n38,3)))
  (some (n38,3)))))
def Zd (N:Nat) (s_0:List UInt8) (at_1:Int):Nat->Int->Int->Option (Int×Int)
 | 0,_,_=>none
 | n+1,n59,i60=>
  cond (Q4 .lss i60 4)
  ((Ya N s_0 (wrap .i64 (at_1+i60))).bind fun v62=>
  cond (!v62.2)
  (some (0,0))
  (Zd N s_0 at_1 n (wrap .i64 ((wrap .i64 (64 * n59))+v62.1)) (wrap .i64 (i60+1))))
  (cond (Q4 .lss n59 65536)
  (some (0,0))
  (cond (Q4 .gtr n59 1114111)
  (some (0,0))
  (cond (Q4 .geq n59 55296)
  (cond (Q4 .leq n59 57343)
  (some (0,0))
  (some (n59,4)))
  (some (n59,4)))))
def Vk (N:Nat) (s_0:List UInt8) (at_1:Int):Nat->Int->Int->Option (Int×Int)
 | 0,_,_=>none
 | n+1,n80,i81=>
  cond (Q4 .lss i81 4)
  ((Ya N s_0 (wrap .i64 (at_1+i81))).bind fun v83=>
  cond (!v83.2)
  (some (0,0))
  (Vk N s_0 at_1 n (wrap .i64 ((wrap .i64 (64 * n80))+v83.1)) (wrap .i64 (i81+1))))
  (cond (Q4 .lss n80 65536)
  (some (0,0))
  (cond (Q4 .gtr n80 1114111)
  (some (0,0))
  (cond (Q4 .geq n80 55296)
  (cond (Q4 .leq n80 57343)
  (some (0,0))
  (some (n80,4)))
  (some (n80,4)))))
def Vn (N:Nat) (s_0:List UInt8) (at_1:Int):Nat->Int->Int->Option (Int×Int)
 | 0,_,_=>none
 | n+1,n101,i102=>
  cond (Q4 .lss i102 3)
  ((Ya N s_0 (wrap .i64 (at_1+i102))).bind fun v104=>
  cond (!v104.2)
  (some (0,0))
  (Vn N s_0 at_1 n (wrap .i64 ((wrap .i64 (64 * n101))+v104.1)) (wrap .i64 (i102+1))))
  (cond (Q4 .lss n101 2048)
  (some (0,0))
  (cond (Q4 .gtr n101 1114111)
  (some (0,0))
  (cond (Q4 .geq n101 55296)
  (cond (Q4 .leq n101 57343)
  (some (0,0))
  (some (n101,3)))
  (some (n101,3)))))
def Vm (N:Nat) (s_0:List UInt8) (at_1:Int):Nat->Int->Int->Option (Int×Int)
 | 0,_,_=>none
 | n+1,n122,i123=>
  cond (Q4 .lss i123 4)
  ((Ya N s_0 (wrap .i64 (at_1+i123))).bind fun v125=>
  cond (!v125.2)
  (some (0,0))
  (Vm N s_0 at_1 n (wrap .i64 ((wrap .i64 (64 * n122))+v125.1)) (wrap .i64 (i123+1))))
  (cond (Q4 .lss n122 65536)
  (some (0,0))
  (cond (Q4 .gtr n122 1114111)
  (some (0,0))
  (cond (Q4 .geq n122 55296)
  (cond (Q4 .leq n122 57343)
  (some (0,0))
  (some (n122,4)))
  (some (n122,4)))))
def Vr (N:Nat) (s_0:List UInt8) (at_1:Int):Nat->Int->Int->Option (Int×Int)
 | 0,_,_=>none
 | n+1,n143,i144=>
  cond (Q4 .lss i144 4)
  ((Ya N s_0 (wrap .i64 (at_1+i144))).bind fun v146=>
  cond (!v146.2)
  (some (0,0))
  (Vr N s_0 at_1 n (wrap .i64 ((wrap .i64 (64 * n143))+v146.1)) (wrap .i64 (i144+1))))
  (cond (Q4 .lss n143 65536)
  (some (0,0))
  (cond (Q4 .gtr n143 1114111)
  (some (0,0))
  (cond (Q4 .geq n143 55296)
  (cond (Q4 .leq n143 57343)
  (some (0,0))
  (some (n143,4)))
  (some (n143,4)))))
def Vv (N:Nat) (s_0:List UInt8) (at_1:Int):Option (Int×Int):=
 (idx s_0 at_1).bind fun b1=>
 cond (Q4 .lss (wrap .i64 (b1.toNat:Int)) 128)
 (some ((wrap .i64 (b1.toNat:Int)),1))
 (cond (Q4 .geq (wrap .i64 (b1.toNat:Int)) 192)
 (cond (Q4 .lss (wrap .i64 (b1.toNat:Int)) 224)
 (Zc N s_0 at_1 N (wrap .i64 ((wrap .i64 (b1.toNat:Int)) - 192)) 1)
 (cond (Q4 .geq (wrap .i64 (b1.toNat:Int)) 224)
 (cond (Q4 .lss (wrap .i64 (b1.toNat:Int)) 240)
 (Ze N s_0 at_1 N (wrap .i64 ((wrap .i64 (b1.toNat:Int)) - 224)) 1)
 (cond (Q4 .geq (wrap .i64 (b1.toNat:Int)) 240)
 (cond (Q4 .lss (wrap .i64 (b1.toNat:Int)) 248)
 (Zd N s_0 at_1 N (wrap .i64 ((wrap .i64 (b1.toNat:Int)) - 240)) 1)
 (some (0,0)))
 (some (0,0))))
 (cond (Q4 .geq (wrap .i64 (b1.toNat:Int)) 240)
 (cond (Q4 .lss (wrap .i64 (b1.toNat:Int)) 248)
 (Vk N s_0 at_1 N (wrap .i64 ((wrap .i64 (b1.toNat:Int)) - 240)) 1)
 (some (0,0)))
 (some (0,0)))))
 (cond (Q4 .geq (wrap .i64 (b1.toNat:Int)) 224)
 (cond (Q4 .lss (wrap .i64 (b1.toNat:Int)) 240)
 (Vn N s_0 at_1 N (wrap .i64 ((wrap .i64 (b1.toNat:Int)) - 224)) 1)
 (cond (Q4 .geq (wrap .i64 (b1.toNat:Int)) 240)
 (cond (Q4 .lss (wrap .i64 (b1.toNat:Int)) 248)
 (Vm N s_0 at_1 N (wrap .i64 ((wrap .i64 (b1.toNat:Int)) - 240)) 1)
 (some (0,0)))
 (some (0,0))))
 (cond (Q4 .geq (wrap .i64 (b1.toNat:Int)) 240)
 (cond (Q4 .lss (wrap .i64 (b1.toNat:Int)) 248)
 (Vr N s_0 at_1 N (wrap .i64 ((wrap .i64 (b1.toNat:Int)) - 240)) 1)
 (some (0,0)))
 (some (0,0)))))
theorem Q9m {N} {s_0} {at_1} {r} (h:Vv N s_0 at_1=some r):pU 313 [.str s_0,.int .i64 at_1] (.tuple [.int .i64 r.1,.int .i64 r.2]):=by
 refine Q0 Zet ?_;unfold Vv at h;rw [cX] at h;refine xB h fun b1 h=>?_;refine iL2 h fun h=>?_;apply iU h<;>intro h
 ·apply iU h<;>intro h
  ·refine lpH (τ:=Int×Int) (fun ⟨n15,i17⟩=>(iS s_0::iI at_1::a4 (iI n15::iI 2::iI 128::iI i17::a16 (a16 (a16 (a16 (a8 (.any :: [])))))):List AV)) (fun n0 ⟨n15,i17⟩=>Zc N s_0 at_1 n0 n15 i17) ((wrap .i64 ((wrap .i64 (b1.toNat:Int)) - 192)),1) h fun n0 ⟨n15,i17⟩ h=>?_
   first | rw [Zc] at h | simp only [Zc] at h
   rw [cX] at h;apply iU h<;>intro h
   ·refine cP h Xu p2 fun v19 h=>?_;refine iL2 h fun h=>?_;show Exists _;exact ⟨(n0,(wrap .i64 ((wrap .i64 (64 * n15))+v19.1)),(wrap .i64 (i17+1))),h,Le _,(fun i=>i),Yf⟩
   refine iL2 h fun h=>?_;refine iL2 h fun h=>?_;refine iR2 h fun h=>?_;exact iB2 h
  apply iU h<;>intro h
  ·apply iU h<;>intro h
   ·refine lpH (τ:=Int×Int) (fun ⟨n38,i39⟩=>(iS s_0::iI at_1::a4 (iI n38::iI 3::iI 2048::iI i39::a16 (a16 (a16 (a16 (a8 (.any :: [])))))):List AV)) (fun n1 ⟨n38,i39⟩=>Ze N s_0 at_1 n1 n38 i39) ((wrap .i64 ((wrap .i64 (b1.toNat:Int)) - 224)),1) h fun n1 ⟨n38,i39⟩ h=>?_
    first | rw [Ze] at h | simp only [Ze] at h
    rw [cX] at h;apply iU h<;>intro h
    ·refine cP h Xu p2 fun v41 h=>?_;refine iL2 h fun h=>?_;show Exists _;exact ⟨(n1,(wrap .i64 ((wrap .i64 (64 * n38))+v41.1)),(wrap .i64 (i39+1))),h,Le _,(fun i=>i),Yf⟩
    refine iL2 h fun h=>?_;refine iL2 h fun h=>?_;refine iR2 h fun h=>?_;exact iB2 h
   refine iR2 h fun h=>?_;refine iR2 h fun h=>?_;refine lpH (τ:=Int×Int) (fun ⟨n59,i60⟩=>(iS s_0::iI at_1::a4 (iI n59::iI 4::iI 65536::iI i60::a16 (a16 (a16 (a16 (a8 (.any :: [])))))):List AV)) (fun n2 ⟨n59,i60⟩=>Zd N s_0 at_1 n2 n59 i60) ((wrap .i64 ((wrap .i64 (b1.toNat:Int)) - 240)),1) h fun n2 ⟨n59,i60⟩ h=>?_
   first | rw [Zd] at h | simp only [Zd] at h
   rw [cX] at h;apply iU h<;>intro h
   ·refine cP h Xu p2 fun v62 h=>?_;refine iL2 h fun h=>?_;show Exists _;exact ⟨(n2,(wrap .i64 ((wrap .i64 (64 * n59))+v62.1)),(wrap .i64 (i60+1))),h,Le _,(fun i=>i),Yf⟩
   refine iL2 h fun h=>?_;refine iL2 h fun h=>?_;refine iR2 h fun h=>?_;exact iB2 h
  refine iR2 h fun h=>?_;refine iR2 h fun h=>?_;refine lpH (τ:=Int×Int) (fun ⟨n80,i81⟩=>(iS s_0::iI at_1::a4 (iI n80::iI 4::iI 65536::iI i81::a16 (a16 (a16 (a16 (a8 (.any :: [])))))):List AV)) (fun n3 ⟨n80,i81⟩=>Vk N s_0 at_1 n3 n80 i81) ((wrap .i64 ((wrap .i64 (b1.toNat:Int)) - 240)),1) h fun n3 ⟨n80,i81⟩ h=>?_
  first | rw [Vk] at h | simp only [Vk] at h
  rw [cX] at h;apply iU h<;>intro h
  ·refine cP h Xu p2 fun v83 h=>?_;refine iL2 h fun h=>?_;show Exists _;exact ⟨(n3,(wrap .i64 ((wrap .i64 (64 * n80))+v83.1)),(wrap .i64 (i81+1))),h,Le _,(fun i=>i),Yf⟩
  refine iL2 h fun h=>?_;refine iL2 h fun h=>?_;refine iR2 h fun h=>?_;exact iB2 h
 apply iU h<;>intro h
 ·apply iU h<;>intro h
  ·refine lpH (τ:=Int×Int) (fun ⟨n101,i102⟩=>(iS s_0::iI at_1::a4 (iI n101::iI 3::iI 2048::iI i102::a16 (a16 (a16 (a16 (a8 (.any :: [])))))):List AV)) (fun n4 ⟨n101,i102⟩=>Vn N s_0 at_1 n4 n101 i102) ((wrap .i64 ((wrap .i64 (b1.toNat:Int)) - 224)),1) h fun n4 ⟨n101,i102⟩ h=>?_
   first | rw [Vn] at h | simp only [Vn] at h
   rw [cX] at h;apply iU h<;>intro h
   ·refine cP h Xu p2 fun v104 h=>?_;refine iL2 h fun h=>?_;show Exists _;exact ⟨(n4,(wrap .i64 ((wrap .i64 (64 * n101))+v104.1)),(wrap .i64 (i102+1))),h,Le _,(fun i=>i),Yf⟩
   refine iL2 h fun h=>?_;refine iL2 h fun h=>?_;refine iR2 h fun h=>?_;exact iB2 h
  refine iR2 h fun h=>?_;refine iR2 h fun h=>?_;refine lpH (τ:=Int×Int) (fun ⟨n122,i123⟩=>(iS s_0::iI at_1::a4 (iI n122::iI 4::iI 65536::iI i123::a16 (a16 (a16 (a16 (a8 (.any :: [])))))):List AV)) (fun n5 ⟨n122,i123⟩=>Vm N s_0 at_1 n5 n122 i123) ((wrap .i64 ((wrap .i64 (b1.toNat:Int)) - 240)),1) h fun n5 ⟨n122,i123⟩ h=>?_
  first | rw [Vm] at h | simp only [Vm] at h
  rw [cX] at h;apply iU h<;>intro h
  ·refine cP h Xu p2 fun v125 h=>?_;refine iL2 h fun h=>?_;show Exists _;exact ⟨(n5,(wrap .i64 ((wrap .i64 (64 * n122))+v125.1)),(wrap .i64 (i123+1))),h,Le _,(fun i=>i),Yf⟩
  refine iL2 h fun h=>?_;refine iL2 h fun h=>?_;refine iR2 h fun h=>?_;exact iB2 h
 refine iR2 h fun h=>?_;refine iR2 h fun h=>?_;refine lpH (τ:=Int×Int) (fun ⟨n143,i144⟩=>(iS s_0::iI at_1::a4 (iI n143::iI 4::iI 65536::iI i144::a16 (a16 (a16 (a16 (a8 (.any :: [])))))):List AV)) (fun n6 ⟨n143,i144⟩=>Vr N s_0 at_1 n6 n143 i144) ((wrap .i64 ((wrap .i64 (b1.toNat:Int)) - 240)),1) h fun n6 ⟨n143,i144⟩ h=>?_
 first | rw [Vr] at h | simp only [Vr] at h
 rw [cX] at h;apply iU h<;>intro h
 ·refine cP h Xu p2 fun v146 h=>?_;refine iL2 h fun h=>?_;show Exists _;exact ⟨(n6,(wrap .i64 ((wrap .i64 (64 * n143))+v146.1)),(wrap .i64 (i144+1))),h,Le _,(fun i=>i),Yf⟩
 refine iL2 h fun h=>?_;refine iL2 h fun h=>?_;refine iR2 h fun h=>?_;exact iB2 h
def W9 (N:Nat) (s_0:List UInt8):Nat->Int->Option Int
 | 0,_=>none
 | n+1,at12=>
  cond (Q4 .lss at12 (s_0.length:Int))
  ((Vv N s_0 at12).bind fun v14=>
  cond (Q4 .eql v14.2 0)
  (some at12)
  (cond (Q4 .eql v14.1 0)
  (some at12)
  (W9 N s_0 n (wrap .i64 (at12+v14.2)))))
  (some (-1))
def Q2d (N:Nat) (s_0:List UInt8):Option Int:=
 W9 N s_0 N 0
theorem Qbk {N} {s_0} {r} (h:Q2d N s_0=some r):pU 222 [.str s_0] (.int .i64 r):=by
 refine Q0 Zei ?_;unfold Q2d at h;refine lpH (τ:=Int) (fun at12=>(iS s_0 :: .any :: .any::iI at12::a16 (a4 (a2 ([]))):List AV)) (fun n0 at12=>W9 N s_0 n0 at12) (0) h fun n0 at12 h=>?_
 first | rw [W9] at h | simp only [W9] at h
 rw [cX] at h;refine iR h fun h=>?_;refine cP h Q9m p2 fun v14 h=>?_;refine iL h fun h=>?_;refine iL h fun h=>?_;show Exists _;exact ⟨(n0,(wrap .i64 (at12+v14.2))),h,Le _,(fun i=>i),Yf⟩
def Y0 (N:Nat) (s_0:List UInt8):Option Bool:=
 cond (Q4 .leq (s_0.length:Int) 65535)
 ((Q2d N s_0).bind fun v2=>
 some (Q4 .lss v2 0))
 (some false)
theorem Yr {N} {s_0} {r} (h:Y0 N s_0=some r):pU 147 [.str s_0] (.bool r):=by
 refine Q0 Zce ?_;unfold Y0 at h;rw [cX] at h;refine iR h fun h=>?_;refine cP h Qbk p1 fun v2 h=>?_;cases h;exact (.p _)
def Vd (N:Nat) (s_0:List UInt8) (c:Int):Nat->Int->Option Bool
 | 0,_=>none
 | n+1,i10=>
  cond (Q4 .lss i10 (s_0.length:Int))
  ((idx s_0 i10).bind fun b12=>
  cond (Q4 .eql (b12.toNat:Int) c)
  (some true)
  (Vd N s_0 c n (wrap .i64 (i10+1))))
  (some false)
def Y7 (N:Nat) (s_0:List UInt8) (c:Int):Option Bool:=
 Vd N s_0 c N 0
theorem Wa {N} {s_0} {c} {r} (h:Y7 N s_0 c=some r):pU 148 [.str s_0,.int .u8 c] (.bool r):=by
 refine Q0 Zqq ?_;unfold Y7 at h;refine lpH (τ:=Int) (fun i10=>(iS s_0 :: .p (.int .u8 c)::a2 (.any::iI i10::a8 (a2 (.any :: []))):List AV)) (fun n0 i10=>Vd N s_0 c n0 i10) (0) h fun n0 i10 h=>?_
 first | rw [Vd] at h | simp only [Vd] at h
 rw [cX] at h;refine iR h fun h=>?_;refine xB h fun b12 h=>?_;refine iL h fun h=>?_;show Exists _;exact ⟨(n0,(wrap .i64 (i10+1))),h,Le _,(fun i=>i),Yf⟩
def Qr (N:Nat) (s_0:List UInt8):Option Bool:=
 cond (Q1l .neq s_0 [])
 ((Y0 N s_0).bind fun v2=>
 cond v2
 ((Y7 N s_0 43).bind fun v5=>
 cond (!v5)
 ((Y7 N s_0 35).bind fun v8=>
 some (!v8))
 (some false))
 (some false))
 (some false)
theorem Zi {N} {s_0} {r} (h:Qr N s_0=some r):pU 94 [.str s_0] (.bool r):=by
 refine Q0 k94 ?_;unfold Qr at h;rw [cY] at h;refine iR h fun h=>?_;refine cP h Yr p1 fun v2 h=>?_;refine iR h fun h=>?_;refine cP h Wa p2 fun v5 h=>?_;refine iR h fun h=>?_;refine cP h Wa p2 fun v8 h=>?_;cases h;exact (.p _)
def Vo (_N:Nat) (s90:Bool):Option Int:=
 cond s90
 (some 2)
 (some 0)
def Wf (N:Nat) (p:Q6) (v4:Qc) (s84:Bool):Option Int:=
 cond s84
 (some 9)
 (cond (Q4 .eql v4.shape 6)
 (Vo N (Q4 .gtr (p.Text.length:Int) 65535))
 (Vo N false))
def Xa (N:Nat) (p:Q6) (v4:Qc) (s65:Bool):Option Int:=
 cond s65
 (some 6)
 (cond (Q4 .eql p.ID 8)
 ((Qr N p.Text).bind fun v86=>
 Wf N p v4 (!v86))
 (Wf N p v4 false))
def Yp (N:Nat) (p:Q6) (v4:Qc) (text43:Bool):Option Int:=
 cond text43
 ((Y0 N p.Text).bind fun v67=>
 cond (!v67)
 (Xa N p v4 true)
 ((Y0 N p.Value).bind fun v70=>
 Xa N p v4 (!v70)))
 (Xa N p v4 false)
def Zo (N:Nat) (p:Q6) (v4:Qc) (s38:Bool):Option Int:=
 cond s38
 (some 9)
 (cond (Q4 .eql v4.shape 5)
 (Yp N p v4 true)
 (Yp N p v4 (Q4 .eql v4.shape 7)))
def Qn (N:Nat) (p:Q6) (v4:Qc) (s23:Bool):Option Int:=
 cond s23
 (some 2)
 (cond (Q4 .leq v4.shape 4)
 (cond (Q4 .lss p.N' v4.least)
 (Zo N p v4 true)
 (Zo N p v4 (Q4 .gtr p.N' v4.most)))
 (Zo N p v4 false))
def Jy (N:Nat) (kind:Int) (p:Q6):Option Int:=
 (J6 N kind p.ID).bind fun v1=>
 cond (!v1)
 (some 9)
 ((W0 N p.ID).bind fun v4=>
 cond (Q4 .leq v4.shape 4)
 (cond (Q1l .neq p.Text [])
 (Qn N p v4 true)
 (cond (Q4 .neq v4.shape 7)
 (Qn N p v4 (Q1l .neq p.Value []))
 (Qn N p v4 false)))
 (cond (Q4 .neq p.N' 0)
 (Qn N p v4 true)
 (cond (Q4 .neq v4.shape 7)
 (Qn N p v4 (Q1l .neq p.Value []))
 (Qn N p v4 false))))
theorem Q9c {N} {kind} {p} {r} (h:Jy N kind p=some r):pU 151 [.int .i64 kind,.agg (Q6.cells p)] (.int .i64 r):=by
 refine Q0 Zfc ?_;unfold Jy at h;rw [cX,cY] at h;refine cP h Q64 p2 fun v1 h=>?_;refine iL h fun h=>?_;refine cP h Q00 p1 fun v4 h=>?_;refine Y1 ?_;refine Vl (σ:=Bool) (fun s23=>(a2 (.any :: .ptr 0 0 :: .any :: .ptr 1 0 :: .p (.bool (Qmr .leq v4.shape 4))::a16 (a16 (a4 (.p (.bool s23)::a16 (a16 (a16 (a4 (a2 ([]))))))))):List AV)) (fun _=>(.cells (iI p.ID :: .p (.int .u32 p.N')::iS p.Text::iS p.Value :: []) :: .cells (iI v4.shape :: .p (.slice 1 (Q7 (cI .i64) v4.kinds)) :: .p (.int .u32 v4.least) :: .p (.int .u32 v4.most) :: []) :: []:List AObj)) (fun s23=>Qn N p v4 s23=some r) (fun _ _=>Lj _) ?_ ?_
 ·refine ifO h (fun hc24 h=>?_) (fun hc24 h=>?_)
  ·apply iU h<;>intro h
   ·show Exists _;exact ⟨(true),h,(fun i=>i),Yf⟩
   refine ifF (Z7e hc24) ?_;apply iU h<;>intro h
   ·show Exists _;exact ⟨((Z7m .neq p.Value [])),h,(fun i=>i),Yf⟩
   show Exists _;exact ⟨(false),h,(fun i=>i),Yf⟩
  refine ifT (Z33 hc24) ?_;apply iU h<;>intro h
  ·show Exists _;exact ⟨(true),h,(fun i=>i),Yf⟩
  apply iU h<;>intro h
  ·show Exists _;exact ⟨((Z7m .neq p.Value [])),h,(fun i=>i),Yf⟩
  show Exists _;exact ⟨(false),h,(fun i=>i),Yf⟩
 rintro s23 h
 unfold Qn at h;rw [cX] at h;refine iL h fun h=>?_;refine Y1 ?_;refine Vl (σ:=Bool) (fun s38=>(a2 (.any :: .ptr 0 0 :: .any :: .ptr 1 0::a16 (a16 (a16 (a4 (.p (.bool s38)::a16 (a16 (a4 (a2 (.any :: []))))))))):List AV)) (fun _=>(.cells (iI p.ID :: .p (.int .u32 p.N')::iS p.Text::iS p.Value :: []) :: .cells (iI v4.shape :: .p (.slice 1 (Q7 (cI .i64) v4.kinds)) :: .p (.int .u32 v4.least) :: .p (.int .u32 v4.most) :: []) :: []:List AObj)) (fun s38=>Zo N p v4 s38=some r) (fun _ _=>Lj _) ?_ ?_
 ·apply iU h<;>intro h
  ·apply iU h<;>intro h
   ·show Exists _;exact ⟨(true),h,(fun i=>i),Yf⟩
   show Exists _;exact ⟨((Qmr .gtr p.N' v4.most)),h,(fun i=>i),Yf⟩
  show Exists _;exact ⟨(false),h,(fun i=>i),Yf⟩
 rintro s38 h
 unfold Zo at h;rw [cX] at h;refine iL h fun h=>?_;refine Vl (σ:=Bool) (fun text43=>(a2 (.any :: .ptr 0 0 :: .any :: .ptr 1 0 :: .any :: .p (.bool text43)::a16 (a16 (a16 (a16 (a16 (a8 (a2 ([])))))))):List AV)) (fun _=>(.cells (iI p.ID :: .p (.int .u32 p.N')::iS p.Text::iS p.Value :: []) :: .cells (iI v4.shape :: .p (.slice 1 (Q7 (cI .i64) v4.kinds)) :: .p (.int .u32 v4.least) :: .p (.int .u32 v4.most) :: []) :: []:List AObj)) (fun text43=>Yp N p v4 text43=some r) (fun _ _=>Lj _) ?_ ?_
 ·apply iU h<;>intro h
  ·show Exists _;exact ⟨(true),h,(fun i=>i),Yf⟩
  show Exists _;exact ⟨((Qmr .eql v4.shape 7)),h,(fun i=>i),Yf⟩
 rintro text43 h
 unfold Yp at h;refine Y1 ?_;refine Vl (σ:=Bool) (fun s65=>(a2 (.any :: .ptr 0 0 :: .any :: .ptr 1 0::a16 (a16 (a16 (a16 (a8 (.any :: .p (.bool s65)::a16 (a2 ([])))))))):List AV)) (fun _=>(.cells (iI p.ID :: .p (.int .u32 p.N')::iS p.Text::iS p.Value :: []) :: .cells (iI v4.shape :: .p (.slice 1 (Q7 (cI .i64) v4.kinds)) :: .p (.int .u32 v4.least) :: .p (.int .u32 v4.most) :: []) :: []:List AObj)) (fun s65=>Xa N p v4 s65=some r) (fun _ _=>Lj _) ?_ ?_
 ·apply iU h<;>intro h
  ·refine cP h Yr p1 fun v67 h=>?_;apply iU h<;>intro h
   ·show Exists _;exact ⟨(true),h,(fun i=>i),Yf⟩
   refine cP h Yr p1 fun v70 h=>?_;show Exists _;exact ⟨((!v70)),h,(fun i=>i),Yf⟩
  show Exists _;exact ⟨(false),h,(fun i=>i),Yf⟩
 rintro s65 h
 unfold Xa at h;rw [cX] at h;refine iL h fun h=>?_;refine Y1 ?_;refine Vl (σ:=Bool) (fun s84=>(a2 (.any :: .ptr 0 0 :: .any :: .ptr 1 0::a16 (a16 (a16 (a16 (a16 (a2 (.p (.bool s84)::a8 (.any :: [])))))))):List AV)) (fun _=>(.cells (iI p.ID :: .p (.int .u32 p.N')::iS p.Text::iS p.Value :: []) :: .cells (iI v4.shape :: .p (.slice 1 (Q7 (cI .i64) v4.kinds)) :: .p (.int .u32 v4.least) :: .p (.int .u32 v4.most) :: []) :: []:List AObj)) (fun s84=>Wf N p v4 s84=some r) (fun _ _=>Lj _) ?_ ?_
 ·apply iU h<;>intro h
  ·refine cP h Zi p1 fun v86 h=>?_;show Exists _;exact ⟨((!v86)),h,(fun i=>i),Yf⟩
  show Exists _;exact ⟨(false),h,(fun i=>i),Yf⟩
 rintro s84 h
 unfold Wf at h;rw [cX] at h;refine iL h fun h=>?_;refine Vl (σ:=Bool) (fun s90=>(a16 (a16 (a16 (a16 (a16 (a16 (.any :: .p (.bool s90) :: [])))))):List AV)) (fun _=>(.cells (iI p.ID :: .p (.int .u32 p.N')::iS p.Text::iS p.Value :: []) :: .cells (iI v4.shape :: .p (.slice 1 (Q7 (cI .i64) v4.kinds)) :: .p (.int .u32 v4.least) :: .p (.int .u32 v4.most) :: []) :: []:List AObj)) (fun s90=>Vo N s90=some r) (fun _ _=>Lj _) ?_ ?_
 ·apply iU h<;>intro h
  ·show Exists _;exact ⟨((Qmr .gtr (p.Text.length:Int) 65535)),h,(fun i=>i),Yf⟩
  show Exists _;exact ⟨(false),h,(fun i=>i),Yf⟩
 rintro s90 h
 unfold Vo at h;exact iB h
def Xb (N:Nat) (kind:Int) (l:List Q6):Nat->Int->Option Int
 | 0,_=>none
 | n+1,i28=>
  cond (Q4 .lss i28 ((Q7 Q6.cells l).length:Int))
  ((idx l i28).bind fun y30=>
  (Jy N kind y30).bind fun v32=>
  cond (Q4 .neq v32 0)
  (some v32)
  (cond (decide (0≤i28)) (cond (Nat.ble 0 i28.toNat&&Nat.ble i28.toNat (Q7 Q6.cells l).length) ((idx l i28).bind fun y37=>
  (G0 N kind (l.take i28.toNat) y37.ID).bind fun v39=>
  cond v39
  (some 9)
  (Xb N kind l n (wrap .i64 (i28+1)))) none) none))
  ((Q1n N l).bind fun v42=>
  cond v42
  (some 9)
  ((Uo N l).bind fun v45=>
  cond (Q4 .gtr (v45.length:Int) 268435455)
  (some 4)
  (some 0)))
def Yy (N:Nat) (kind:Int) (l:List Q6):Option Int:=
 cond (Q4 .gtr ((Q7 Q6.cells l).length:Int) 1000)
 (some 4)
 (Xb N kind l N 0)
theorem Ga {N} {kind} {l} {r} (h:Yy N kind l=some r):pU 97 [.int .i64 kind,.slice 4 (Q7 Q6.cells l)] (.int .i64 r):=by
 refine Q0 k97 ?_;unfold Yy at h;rw [cX] at h;refine iL h fun h=>?_;refine lpH (τ:=Int) (fun i28=>(iI kind :: .p (.slice 4 (Q7 Q6.cells l))::a2 (.any::iI i28::a16 (a16 (a2 (.any :: [])))):List AV)) (fun n0 i28=>Xb N kind l n0 i28) (0) h fun n0 i28 h=>?_
 first | rw [Xb] at h | simp only [Xb] at h
 rw [cX] at h;apply iU h<;>intro h
 ·refine xR h fun y30 h=>?_;refine cP h Q9c (.cons (.p _) (.cons q4 .nil)) fun v32 h=>?_;refine iL h fun h=>?_;refine Ql ?_;refine kU h fun h=>?_;refine kU h fun h=>?_;refine xR h fun y37 h=>?_;refine cD h Q97 (.cons (.p _) (.cons (Qyv (c:=Q6.cells)) p1)) fun v39 h=>?_;refine iL h fun h=>?_;show Exists _;exact ⟨(n0,(wrap .i64 (i28+1))),h,Le _,(fun i=>i),Yf⟩
 refine cP h Qb5 p1 fun v42 h=>?_;refine iL h fun h=>?_;refine cP h Q5v p1 fun v45 h=>?_;exact iB h
def Q5 (N:Nat) (version:Int) (kind:Int) (l:List Q6):Option Int:=
 cond (Q4 .eql version 4)
 (cond (Q4 .gtr ((Q7 Q6.cells l).length:Int) 0)
 (some 2)
 (some 0))
 ((Yy N kind l).bind fun v3=>
 some v3)
theorem Q8 {N} {version} {kind} {l} {r} (h:Q5 N version kind l=some r):pU 177 [.int .i64 version,.int .i64 kind,.slice 4 (Q7 Q6.cells l)] (.int .i64 r):=by
 refine Q0 Zl3 ?_;unfold Q5 at h;rw [cX] at h;apply iU h<;>intro h
 ·exact iB h
 refine cP h Ga p2 fun v3 h=>?_;cases h;exact (.p _)
def Vu (N:Nat) (version:Int) (p:Q1):Option Int:=
 (Uy N version p).bind fun v1=>
 cond (!v1)
 (some 2)
 ((Y0 N p.Client).bind fun v4=>
 cond (!v4)
 (some 6)
 ((Y0 N p.User).bind fun v7=>
 cond (!v7)
 (some 6)
 (cond p.HasWill
 ((Qr N p.Will.Topic).bind fun v11=>
 cond (!v11)
 (some 10)
 (cond (Q4 .gtr (p.Will.Payload.length:Int) 65535)
 (some 2)
 (cond (Q4 .gtr (p.Pass.length:Int) 65535)
 (some 2)
 ((Q5 N version p.Kind p.Props).bind fun v16=>
 cond (Q4 .neq v16 0)
 (some v16)
 ((Q5 N version 16 p.Will.Props).bind fun v19=>
 some v19)))))
 (cond (Q4 .gtr (p.Will.Payload.length:Int) 65535)
 (some 2)
 (cond (Q4 .gtr (p.Pass.length:Int) 65535)
 (some 2)
 ((Q5 N version p.Kind p.Props).bind fun v23=>
 cond (Q4 .neq v23 0)
 (some v23)
 ((Q5 N version 16 p.Will.Props).bind fun v26=>
 some v26)))))))
theorem Q4z {N} {version} {p} {r} (h:Vu N version p=some r):pU 121 [.int .i64 version,.agg (Q1.cells p)] (.int .i64 r):=by
 refine Q0 Zn5 ?_;unfold Vu at h;rw [cX] at h;refine cP h Q94 zd fun v1 h=>?_;refine iL h fun h=>?_;refine cP h Yr p1 fun v4 h=>?_;refine iL h fun h=>?_;refine cP h Yr p1 fun v7 h=>?_;refine iL h fun h=>?_;apply iU h<;>intro h
 ·refine cP h Zi p1 fun v11 h=>?_;refine iL h fun h=>?_;refine iL h fun h=>?_;refine iL h fun h=>?_;refine cP h Q8 p3 fun v16 h=>?_;refine iL h fun h=>?_;refine cP h Q8 p3 fun v19 h=>?_;cases h;exact (.p _)
 refine iL h fun h=>?_;refine iL h fun h=>?_;refine cP h Q8 p3 fun v23 h=>?_;refine iL h fun h=>?_;refine cP h Q8 p3 fun v26 h=>?_;cases h;exact (.p _)
def Z2 (N:Nat) (p:Q1):Option (Int×Bool):=
 (Wp N p.Props 35).bind fun v1=>
 some ((wrap .i64 v1.1.N'),v1.2)
theorem Yq {N} {p} {r} (h:Z2 N p=some r):pU 178 [.agg (Q1.cells p)] (.tuple [.int .i64 r.1,.bool r.2]):=by
 refine Q0 Zgn ?_;unfold Z2 at h;refine cP h Q0o p2 fun v1 h=>?_;obtain rfl:=Qi h;exact u2
def Ul (_N:Nat) (version:Int) (k_1:Int):Option Bool:=
 cond (Q4 .geq k_1 1)
 (cond (Q4 .lss k_1 15)
 (some true)
 (cond (Q4 .eql k_1 15)
 (some (Q4 .eql version 5))
 (some false)))
 (some false)
theorem Q55 {N} {version} {k_1} {r} (h:Ul N version k_1=some r):pU 107 [.int .i64 version,.int .i64 k_1] (.bool r):=by
 refine Q0 Zi0 ?_;unfold Ul at h;rw [cX] at h;refine iR h fun h=>?_;refine iL h fun h=>?_;exact iB h
end
end
end Go.Av
