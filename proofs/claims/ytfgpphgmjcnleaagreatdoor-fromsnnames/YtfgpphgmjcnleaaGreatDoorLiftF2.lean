/- Part of FromsnNames: the law returns true; no condition. -/
import Derived.Test.YtfgpphgmjcnleaaGreatDoorLiftF1
set_option linter.all false
open Go.IntKind (wrap)
namespace Go.Av
noncomputable section
open Go.Proofs
set_option maxRecDepth 100000
set_option maxHeartbeats 4000000
attribute [local irreducible] Qv Q8 Q3g Q27 Qpn Qj3 Qgp
section
def Q2x (N:Nat) (e:Zj):Option Bool:=
 (Wq N e.Type' 0 2).bind fun v1=>
 cond (!v1)
 (some false)
 ((Q03 N e.Topic).bind fun v4=>
 cond (Q6 .eql e.Type' 2)
 (cond (!v4.2)
 (some false)
 ((U9 N).bind fun v8=>
 (Zx N (⟨e.Hops,(⟨23,(⟨false,0,false,false,false,0⟩:Qp),0,0,0,false,0,0,0,[],[]⟩:X1)⟩:Qf) v8).bind fun v10=>
 some (Q6 .eql v10 0)))
 ((U9 N).bind fun v12=>
 (Zx N (⟨e.Hops,(⟨23,(⟨false,0,false,false,false,0⟩:Qp),0,0,0,false,0,0,0,[],[]⟩:X1)⟩:Qf) v12).bind fun v14=>
 some (Q6 .eql v14 0)))
theorem Q8n {N} {e} {r} (h:Q2x N e=some r):pU 66 [.agg (Zj.cells e)] (.bool r):=by
 refine Q2 k66 ?_;unfold Q2x at h;rw [cX] at h;refine cP h Vs p3 fun v1 h=>?_;refine iL h fun h=>?_;refine cP h Q32 p1 fun v4 h=>?_;apply iU h<;>intro h
 ·refine iL h fun h=>?_;refine Qa ?_;refine cD h Q0d p0 fun v8 h=>?_;refine cD h Zq (.cons (Ar (f8_ za)) p1) fun v10 h=>?_;cases h;exact (.p _)
 refine Qa ?_;refine cD h Q0d p0 fun v12 h=>?_;refine cD h Zq (.cons (Ar (f8_ za)) p1) fun v14 h=>?_;cases h;exact (.p _)
def Q16 (_N:Nat) (p:X8):Option (Q1s):=
 some (⟨p.Kind,p.QoS,p.ID,p.KeepAlive,p.Code,p.Dup,p.Retain,p.Clean,p.HasUser,p.HasPass,p.HasWill,p.Session,p.Topic,p.Payload,p.Client,p.User,p.Pass⟩:Q1s)
theorem Q3s {N} {p} {r} (h:Q16 N p=some r):pU 136 [.agg (X8.cells p)] (.agg (Q1s.cells r)):=by
 refine Q2 Z3i ?_;unfold Q16 at h;obtain rfl:=Qb h;exact (Ar (f8_ za))
def Ve (_N:Nat) (a:Zw) (b:Zw):Option Bool:=
 some (((a.ID:Int) == b.ID)&&(((a.N':Int) == b.N')&&(((a.Text:List UInt8) == b.Text)&&(((a.Value:List UInt8) == b.Value)&&true))))
theorem Q1y {N} {a} {b} {r} (h:Ve N a b=some r):pU 184 [.agg (Zw.cells a),.agg (Zw.cells b)] (.bool r):=by
 refine Q2 Qyg ?_;unfold Ve at h;cases h;exact (.p _)
def Zz (N:Nat) (a:List Zw) (b:List Zw):Nat->Int->Option Bool
 | 0,_=>none
 | n+1,s19=>
  cond (Q6 .lss s19 ((Qg Zw.cells a).length:Int))
  ((idx a s19).bind fun y21=>
  (idx b s19).bind fun y23=>
  (Ve N y21 y23).bind fun v25=>
  cond (!v25)
  (some false)
  (Zz N a b n (wrap .i64 (s19+1))))
  (some true)
def W4 (N:Nat) (a:List Zw) (b:List Zw):Option Bool:=
 cond (Q6 .neq ((Qg Zw.cells a).length:Int) ((Qg Zw.cells b).length:Int))
 (some false)
 (Zz N a b N 0)
theorem Uz {N} {a} {b} {r} (h:W4 N a b=some r):pU 140 [.slice 4 (Qg Zw.cells a),.slice 4 (Qg Zw.cells b)] (.bool r):=by
 refine Q2 Qxh ?_;unfold W4 at h;rw [cX] at h;refine Q3 Qzz ?_;refine iL h fun h=>?_;refine lpH (τ:=Int) (fun s19=>(.any :: .p (.slice 4 (Qg Zw.cells b)) :: .p (.func (.func 184) [] [])::a8 (a4 (.p (.slice 4 (Qg Zw.cells a))::iI ((Qg Zw.cells a).length:Int)::iI s19::a8 (a4 (a2 ([]))))):List AV)) (fun n0 s19=>Zz N a b n0 s19) (0) h fun n0 s19 h=>?_
 first | rw [Zz] at h | simp only [Zz] at h
 rw [cX] at h;refine iR h fun h=>?_;refine xR h fun y21 h=>?_;refine xR h fun y23 h=>?_;refine cP h Q1y (.cons q4 (.cons q4 .nil)) fun v25 h=>?_;refine iL h fun h=>?_;show Exists _;exact ⟨(n0,(wrap .i64 (s19+1))),h,Ll _,(fun i=>i),Z2⟩
def Q0q (N:Nat) (a:Q1p) (b:Q1p):Option Bool:=
 cond (Q31 .eql a.Topic b.Topic)
 (cond (Q31 .eql a.Payload b.Payload)
 (cond (Q6 .eql a.QoS b.QoS)
 (cond (a.Retain == b.Retain)
 ((W4 N a.Props b.Props).bind fun v5=>
 some v5)
 (some false))
 (some false))
 (some false))
 (some false)
theorem Q5w {N} {a} {b} {r} (h:Q0q N a b=some r):pU 137 [.agg (Q1p.cells a),.agg (Q1p.cells b)] (.bool r):=by
 refine Q2 Quh ?_;unfold Q0q at h;rw [cX,cY] at h;refine iR h fun h=>?_;refine iR h fun h=>?_;refine iR h fun h=>?_;refine iR h fun h=>?_;refine cP h Uz p2 fun v5 h=>?_;cases h;exact (.p _)
def Gv (_N:Nat) (a:Int) (b:Int):Option Bool:=
 some (Q6 .eql a b)
theorem Q5i {N} {a} {b} {r} (h:Gv N a b=some r):pU 180 [.int .i64 a,.int .i64 b] (.bool r):=by
 refine Q2 Z2w ?_;unfold Gv at h;rw [cX] at h;cases h;exact (.p _)
def Xq (N:Nat) (a:List Int) (b:List Int):Nat->Int->Option Bool
 | 0,_=>none
 | n+1,s19=>
  cond (Q6 .lss s19 ((Qg (cI .i64) a).length:Int))
  ((idx a s19).bind fun y21=>
  (idx b s19).bind fun y23=>
  (Gv N y21 y23).bind fun v25=>
  cond (!v25)
  (some false)
  (Xq N a b n (wrap .i64 (s19+1))))
  (some true)
def Q0i (N:Nat) (a:List Int) (b:List Int):Option Bool:=
 cond (Q6 .neq ((Qg (cI .i64) a).length:Int) ((Qg (cI .i64) b).length:Int))
 (some false)
 (Xq N a b N 0)
theorem Q6r {N} {a} {b} {r} (h:Q0i N a b=some r):pU 138 [.slice 1 (Qg (cI .i64) a),.slice 1 (Qg (cI .i64) b)] (.bool r):=by
 refine Q2 Z20 ?_;unfold Q0i at h;rw [cX] at h;refine Q3 Qzy ?_;refine iL h fun h=>?_;refine lpH (τ:=Int) (fun s19=>(.any :: .p (.slice 1 (Qg (cI .i64) b)) :: .p (.func (.func 180) [] [])::a8 (a4 (.p (.slice 1 (Qg (cI .i64) a)) :: .p (.int .i64 ((Qg (cI .i64) a).length:Int))::iI s19::a8 (a4 (a2 ([]))))):List AV)) (fun n0 s19=>Xq N a b n0 s19) (0) h fun n0 s19 h=>?_
 first | rw [Xq] at h | simp only [Xq] at h
 rw [cX] at h;refine iR h fun h=>?_;refine xR h fun y21 h=>?_;refine xR h fun y23 h=>?_;refine cP h Q5i p2 fun v25 h=>?_;refine iL h fun h=>?_;show Exists _;exact ⟨(n0,(wrap .i64 (s19+1))),h,Ll _,(fun i=>i),Z2⟩
def Wo (_N:Nat) (a:X4) (b:X4):Option Bool:=
 some (((a.Topic:List UInt8) == b.Topic)&&(((a.QoS:Int) == b.QoS)&&(((a.NoLocal:Bool) == b.NoLocal)&&(((a.AsPublished:Bool) == b.AsPublished)&&(((a.Handling:Int) == b.Handling)&&true)))))
theorem Q0x {N} {a} {b} {r} (h:Wo N a b=some r):pU 182 [.agg (X4.cells a),.agg (X4.cells b)] (.bool r):=by
 refine Q2 Qvs ?_;unfold Wo at h;cases h;exact (.p _)
def Zh (N:Nat) (a:List X4) (b:List X4):Nat->Int->Option Bool
 | 0,_=>none
 | n+1,s19=>
  cond (Q6 .lss s19 ((Qg X4.cells a).length:Int))
  ((idx a s19).bind fun y21=>
  (idx b s19).bind fun y23=>
  (Wo N y21 y23).bind fun v25=>
  cond (!v25)
  (some false)
  (Zh N a b n (wrap .i64 (s19+1))))
  (some true)
def Wv (N:Nat) (a:List X4) (b:List X4):Option Bool:=
 cond (Q6 .neq ((Qg X4.cells a).length:Int) ((Qg X4.cells b).length:Int))
 (some false)
 (Zh N a b N 0)
theorem Q1g {N} {a} {b} {r} (h:Wv N a b=some r):pU 139 [.slice 5 (Qg X4.cells a),.slice 5 (Qg X4.cells b)] (.bool r):=by
 refine Q2 Z26 ?_;unfold Wv at h;rw [cX] at h;refine Q3 Z2f ?_;refine iL h fun h=>?_;refine lpH (τ:=Int) (fun s19=>(.any :: .p (.slice 5 (Qg X4.cells b)) :: .p (.func (.func 182) [] [])::a8 (a4 (.p (.slice 5 (Qg X4.cells a))::iI ((Qg X4.cells a).length:Int)::iI s19::a8 (a4 (a2 ([]))))):List AV)) (fun n0 s19=>Zh N a b n0 s19) (0) h fun n0 s19 h=>?_
 first | rw [Zh] at h | simp only [Zh] at h
 rw [cX] at h;refine iR h fun h=>?_;refine xR h fun y21 h=>?_;refine xR h fun y23 h=>?_;refine cP h Q0x (.cons (Ar p5) (.cons (Ar p5) .nil)) fun v25 h=>?_;refine iL h fun h=>?_;show Exists _;exact ⟨(n0,(wrap .i64 (s19+1))),h,Ll _,(fun i=>i),Z2⟩
def Q2m (N:Nat) (a:X8) (b:X8):Option Bool:=
 (Q16 N a).bind fun v1=>
 (Q16 N b).bind fun v3=>
 cond (((v1.kind:Int) == v3.kind)&&(((v1.qos:Int) == v3.qos)&&(((v1.id:Int) == v3.id)&&(((v1.alive:Int) == v3.alive)&&(((v1.code:Int) == v3.code)&&(((v1.dup:Bool) == v3.dup)&&(((v1.retain:Bool) == v3.retain)&&(((v1.clean:Bool) == v3.clean)&&(((v1.user:Bool) == v3.user)&&(((v1.pass:Bool) == v3.pass)&&(((v1.will:Bool) == v3.will)&&(((v1.again:Bool) == v3.again)&&(((v1.topic:List UInt8) == v3.topic)&&(((v1.payload:List UInt8) == v3.payload)&&(((v1.client:List UInt8) == v3.client)&&(((v1.name:List UInt8) == v3.name)&&(((v1.word:List UInt8) == v3.word)&&true)))))))))))))))))
 ((Q0q N a.Will b.Will).bind fun v6=>
 cond v6
 ((Q0i N a.Codes b.Codes).bind fun v9=>
 cond v9
 ((Wv N a.Filters b.Filters).bind fun v12=>
 cond v12
 ((W4 N a.Props b.Props).bind fun v15=>
 some v15)
 (some false))
 (some false))
 (some false))
 (some false)
theorem Q51 {N} {a} {b} {r} (h:Q2m N a b=some r):pU 98 [.agg (X8.cells a),.agg (X8.cells b)] (.bool r):=by
 refine Q2 k98 ?_;unfold Q2m at h;refine Qa ?_;obtain ⟨v1,hv2,h⟩:=Vd h;refine Jm (Q3s hv2) (.cons (Ar (V6 (f8_ (.cons (.p _) .nil)))) .nil) ?_;obtain ⟨v3,hv4,h⟩:=Vd h;refine Jm (Q3s hv4) (.cons (Ar (V6 (f8_ (.cons (.p _) .nil)))) .nil) ?_;refine Qkj (ks := [0,0,0,0,0,2,2,2,2,2,2,2,1,1,1,1,1]) (xs := [.p (.int .i64 v1.kind),.p (.int .i64 v1.qos),.p (.int .i64 v1.id),.p (.int .i64 v1.alive),.p (.int .i64 v1.code),.p (.bool v1.dup),.p (.bool v1.retain),.p (.bool v1.clean),.p (.bool v1.user),.p (.bool v1.pass),.p (.bool v1.will),.p (.bool v1.again),.p (.str v1.topic),.p (.str v1.payload),.p (.str v1.client),.p (.str v1.name),.p (.str v1.word)]) (ys := [.p (.int .i64 v3.kind),.p (.int .i64 v3.qos),.p (.int .i64 v3.id),.p (.int .i64 v3.alive),.p (.int .i64 v3.code),.p (.bool v3.dup),.p (.bool v3.retain),.p (.bool v3.clean),.p (.bool v3.user),.p (.bool v3.pass),.p (.bool v3.will),.p (.bool v3.again),.p (.str v3.topic),.p (.str v3.payload),.p (.str v3.client),.p (.str v3.name),.p (.str v3.word)]) (b:=(((v1.kind:Int) == v3.kind)&&(((v1.qos:Int) == v3.qos)&&(((v1.id:Int) == v3.id)&&(((v1.alive:Int) == v3.alive)&&(((v1.code:Int) == v3.code)&&(((v1.dup:Bool) == v3.dup)&&(((v1.retain:Bool) == v3.retain)&&(((v1.clean:Bool) == v3.clean)&&(((v1.user:Bool) == v3.user)&&(((v1.pass:Bool) == v3.pass)&&(((v1.will:Bool) == v3.will)&&(((v1.again:Bool) == v3.again)&&(((v1.topic:List UInt8) == v3.topic)&&(((v1.payload:List UInt8) == v3.payload)&&(((v1.client:List UInt8) == v3.client)&&(((v1.name:List UInt8) == v3.name)&&(((v1.word:List UInt8) == v3.word)&&true)))))))))))))))))) rfl ?_;refine ifO h (fun hc5 h=>?_) (fun hc5 h=>?_)
 ·obtain ⟨v6,hv7,h⟩:=Vd h;refine Jm (Q5w hv7) (.cons (Ar (f4_ (.cons (.p _) .nil))) (.cons (Ar (f4_ (.cons (.p _) .nil))) .nil)) ?_;refine ifO h (fun hc8 h=>?_) (fun hc8 h=>?_)
  ·obtain ⟨v9,hv10,h⟩:=Vd h;refine Jm (Q6r hv10) (.cons (.p _) (.cons (.p _) .nil)) ?_;refine ifO h (fun hc11 h=>?_) (fun hc11 h=>?_)
   ·obtain ⟨v12,hv13,h⟩:=Vd h;refine Jm (Q1g hv13) (.cons (.p _) (.cons (.p _) .nil)) ?_;refine ifO h (fun hc14 h=>?_) (fun hc14 h=>?_)
    ·obtain ⟨v15,hv16,h⟩:=Vd h;refine Jm (Uz hv16) (.cons (.p _) (.cons (.p _) .nil)) ?_;have hr:=Qb h;subst hr;exact (.p _)
    have hr:=Qb h;subst hr;exact (.p _)
   have hr:=Qb h;subst hr;exact (.p _)
  have hr:=Qb h;subst hr;exact (.p _)
 have hr:=Qb h;subst hr;exact (.p _)
def Xm (rz:Qn->Qn->Option Bool) (N:Nat) (a:Qn) (b:Qn):Nat->Int->Option Bool
 | 0,_=>none
 | n+1,s22=>
  cond (Q6 .lss s22 ((Qn.rows a.Items).length:Int))
  ((idx a.Items s22).bind fun y24=>
  (idx b.Items s22).bind fun y26=>
  (rz y24 y26).bind fun v28=>
  cond (!v28)
  (some false)
  (Xm rz N a b n (wrap .i64 (s22+1))))
  (some true)
def Q0o (rz:Qn->Qn->Option Bool) (N:Nat) (a:Qn) (b:Qn):Option Bool:=
 cond (Q6 .neq a.Kind b.Kind)
 (some false)
 (cond (Q6 .neq a.N' b.N')
 (some false)
 (cond (Q31 .neq a.Text b.Text)
 (some false)
 (cond (Q6 .neq ((Qn.rows a.Items).length:Int) ((Qn.rows b.Items).length:Int))
 (some false)
 (Xm rz N a b N 0))))
theorem Q6s {rz:Qn->Qn->Option Bool} (hy1:∀ {a} {b} {r},rz a b=some r->pU 103 [.agg (Qn.cells a),.agg (Qn.cells b)] (.bool r)) {N} {a} {b} {r} (h:Q0o rz N a b=some r):pU 103 [.agg (Qn.cells a),.agg (Qn.cells b)] (.bool r):=by
 refine Q2 Qvf ?_;unfold Q0o at h;rw [cX,cY] at h;refine iL h fun h=>?_;refine iL h fun h=>?_;refine iL h fun h=>?_;refine iL h fun h=>?_;refine lpH (τ:=Int) (fun s22=>(.any :: .any :: .ptr 0 0 :: .ptr 1 0::a16 (a16 (iI ((Qn.rows a.Items).length:Int)::iI s22::a8 (a4 (a2 (.any :: []))))):List AV)) (fun n0 s22=>Xm rz N a b n0 s22) (0) h fun n0 s22 h=>?_
 first | rw [Xm] at h | simp only [Xm] at h
 rw [cX] at h;refine iR h fun h=>?_;refine Qa ?_;refine Qn.xR h fun y24 h=>?_;refine Qn.xR h fun y26 h=>?_;refine cD h hy1 (.cons q4 (.cons q4 .nil)) fun v28 h=>?_;refine iL h fun h=>?_;show Exists _;exact ⟨(n0,(wrap .i64 (s22+1))),h,Ll _,(fun i=>i),Z2⟩
def Jd:Nat->Qn->Qn->Option Bool
 | 0=>fun _ _=>none
 | N+1=>Q0o (Jd N) N
theorem Q6g {N} {a} {b} {r} (h:Jd N a b=some r):pU 103 [.agg (Qn.cells a),.agg (Qn.cells b)] (.bool r):=by
 induction N generalizing a b r with
 | zero=>simp [Jd] at h
 | succ N ih=>exact Q6s (fun h=>ih h) h
def Xl (N:Nat) (a:Vl) (b:Vl):Nat->Int->Option Bool
 | 0,_=>none
 | n+1,s22=>
  cond (Q6 .lss s22 ((Qn.rows a.Values).length:Int))
  ((idx a.Values s22).bind fun y24=>
  (idx b.Values s22).bind fun y26=>
  (Jd N y24 y26).bind fun v28=>
  cond (!v28)
  (some false)
  (Xl N a b n (wrap .i64 (s22+1))))
  (some true)
def J3 (N:Nat) (a:Vl) (b:Vl):Option Bool:=
 cond (Q6 .neq a.Type' b.Type')
 (some false)
 (cond (Q6 .neq a.Channel b.Channel)
 (some false)
 (cond (Q31 .neq a.Ext b.Ext)
 (some false)
 (cond (Q6 .neq ((Qn.rows a.Values).length:Int) ((Qn.rows b.Values).length:Int))
 (some false)
 (Xl N a b N 0))))
theorem Q18 {N} {a} {b} {r} (h:J3 N a b=some r):pU 75 [.agg (Vl.cells a),.agg (Vl.cells b)] (.bool r):=by
 refine Q2 k75 ?_;unfold J3 at h;rw [cX,cY] at h;refine iL h fun h=>?_;refine iL h fun h=>?_;refine iL h fun h=>?_;refine iL h fun h=>?_;refine lpH (τ:=Int) (fun s22=>(a2 (.any :: .ptr 1 0::a16 (a16 (.p (.slice 4 (Qn.rows a.Values))::iI ((Qn.rows a.Values).length:Int)::iI s22::a8 (a4 (.any :: []))))):List AV)) (fun n0 s22=>Xl N a b n0 s22) (0) h fun n0 s22 h=>?_
 first | rw [Xl] at h | simp only [Xl] at h
 rw [cX] at h;refine iR h fun h=>?_;refine Qn.xR h fun y24 h=>?_;refine Qa ?_;refine Qn.xR h fun y26 h=>?_;refine cD h Q6g (.cons q4 (.cons q4 .nil)) fun v28 h=>?_;refine iL h fun h=>?_;show Exists _;exact ⟨(n0,(wrap .i64 (s22+1))),h,Ll _,(fun i=>i),Z2⟩
def Q44 (N:Nat) (e:Zj):Option Bool:=
 (Q2m N e.Packet (⟨0,false,false,0,0,[],[],false,0,[],false,[],false,[],false,(⟨[],[],0,false,[]⟩:Q1p),false,0,[],[],[]⟩:X8)).bind fun v1=>
 cond v1
 (cond (((e.Msg.Type':Int) == 0)&&(((e.Msg.Flags.Dup:Bool) == false)&&(((e.Msg.Flags.QoS:Int) == 0)&&(((e.Msg.Flags.Retain:Bool) == false)&&(((e.Msg.Flags.Will:Bool) == false)&&(((e.Msg.Flags.Clean:Bool) == false)&&(((e.Msg.Flags.Type':Int) == 0)&&(((e.Msg.Gateway:Int) == 0)&&(((e.Msg.Radius:Int) == 0)&&(((e.Msg.Time:Int) == 0)&&(((e.Msg.Timed:Bool) == false)&&(((e.Msg.TopicID:Int) == 0)&&(((e.Msg.MsgID:Int) == 0)&&(((e.Msg.Code:Int) == 0)&&(((e.Msg.Name:List UInt8) == [])&&(((e.Msg.Data:List UInt8) == [])&&true))))))))))))))))
 ((J3 N e.Frame (⟨0,0,[],[]⟩:Vl)).bind fun v5=>
 some v5)
 (some false))
 (some false)
theorem Qa5 {N} {e} {r} (h:Q44 N e=some r):pU 70 [.agg (Zj.cells e)] (.bool r):=by
 refine Q2 k70 ?_;unfold Q44 at h;refine cP h Q51 (.cons zb (.cons (Ar (V6 (f2_ (f1_ (.cons (.nil _) (f2_ (.cons (.nil _) (.cons (.nil _) (.cons (.nil _) .nil))))))))) .nil)) fun v1 h=>?_;refine iR h fun h=>?_;refine Qkj (ks := [0,2,0,2,2,2,0,0,0,0,2,0,0,0,1,1]) (xs := [iI e.Msg.Type',.p (.bool e.Msg.Flags.Dup),iI e.Msg.Flags.QoS,.p (.bool e.Msg.Flags.Retain),.p (.bool e.Msg.Flags.Will),.p (.bool e.Msg.Flags.Clean),iI e.Msg.Flags.Type',iI e.Msg.Gateway,iI e.Msg.Radius,iI e.Msg.Time,.p (.bool e.Msg.Timed),iI e.Msg.TopicID,iI e.Msg.MsgID,iI e.Msg.Code,iS e.Msg.Name,iS e.Msg.Data]) (ys := [iI 0,.p (.bool false),iI 0,.p (.bool false),.p (.bool false),.p (.bool false),iI 0,iI 0,iI 0,iI 0,.p (.bool false),iI 0,iI 0,iI 0,iS [],iS []]) (b:=(((e.Msg.Type':Int) == 0)&&(((e.Msg.Flags.Dup:Bool) == false)&&(((e.Msg.Flags.QoS:Int) == 0)&&(((e.Msg.Flags.Retain:Bool) == false)&&(((e.Msg.Flags.Will:Bool) == false)&&(((e.Msg.Flags.Clean:Bool) == false)&&(((e.Msg.Flags.Type':Int) == 0)&&(((e.Msg.Gateway:Int) == 0)&&(((e.Msg.Radius:Int) == 0)&&(((e.Msg.Time:Int) == 0)&&(((e.Msg.Timed:Bool) == false)&&(((e.Msg.TopicID:Int) == 0)&&(((e.Msg.MsgID:Int) == 0)&&(((e.Msg.Code:Int) == 0)&&(((e.Msg.Name:List UInt8) == [])&&(((e.Msg.Data:List UInt8) == [])&&true))))))))))))))))) rfl ?_;refine iR h fun h=>?_;refine cP h Q18 (.cons q4 (.cons q4n .nil)) fun v5 h=>?_;cases h;exact (.p _)
def Q3r (_N:Nat) (n_0:Int):Option Bool:=
 cond (Q6 .geq n_0 0)
 (some (Q6 .leq n_0 268435455))
 (some false)
theorem Qa1 {N} {n_0} {r} (h:Q3r N n_0=some r):pU 189 [.int .i64 n_0] (.bool r):=by
 refine Q2 Qxv ?_;unfold Q3r at h;rw [cX] at h;exact iB h
def Wc (N:Nat):Nat->Int->(List Int)->Option ((List UInt8)×Int)
 | 0,_,_=>none
 | n+1,n9,l10=>
  cond (Q6 .geq n9 128)
  (cond (Nat.ble ((l10.length+1+4096) * 1) 17592186044416) (Wc N n (wrap .i64 ((n9:Int).tdiv 128)) (l10 ++ [(orI .u8 (wrap .u8 ((n9:Int).tmod 128)) 128)])) none)
  (cond (Nat.ble ((l10.length+1+4096) * 1) 17592186044416) (some (((l10 ++ [(wrap .u8 n9)]).map fun n=>UInt8.ofNat n.toNat),0)) none)
def U3 (N:Nat) (n_0:Int):Option ((List UInt8)×Int):=
 (Q3r N n_0).bind fun v1=>
 cond (!v1)
 (some ([],2))
 (Wc N N n_0 [])
theorem Jj {N} {n_0} {r} (h:U3 N n_0=some r):pU 146 [.int .i64 n_0] (.tuple [.str r.1,.int .i64 r.2]):=by
 refine Q2 Qvk ?_;unfold U3 at h;refine cP h Qa1 p1 fun v1 h=>?_;refine iL2 h fun h=>?_;refine lpA (τ:=Int×(List Int)) (fun ⟨n9,l10⟩=>(iI n9::a2 (.any :: .slice 1 0 0 l10.length::a16 (a4 ([]))):List AV)) (fun ⟨_,l10⟩=>(.cells (Z0 (cI .u8) l10) :: []:List AObj)) (fun n0 ⟨n9,l10⟩=>Wc N n0 n9 l10) (n_0,[]) h fun n0 ⟨n9,l10⟩ h=>?_
 first | rw [Wc] at h | simp only [Wc] at h
 rw [cX] at h;apply iU h<;>intro h
 ·obtain ⟨hk12,h⟩:=Q3x h;refine Uo (Xg (c:=(cI .u8)) (e:=1) (fun _=>rfl) sd hk12) ?_;refine U1 (c:=(cI .u8)) [(orI .u8 (wrap .u8 ((n9:Int).tmod 128)) 128)] rfl ?_;show Exists _;exact ⟨(n0,(wrap .i64 ((n9:Int).tdiv 128)),(l10 ++ [(orI .u8 (wrap .u8 ((n9:Int).tmod 128)) 128)])),h,Ll _,(rho [2]),Z2⟩
 obtain ⟨hk13,h⟩:=Q3x h;refine Uo (Xg (c:=(cI .u8)) (e:=1) (fun _=>rfl) sd hk13) ?_;refine U1 (c:=(cI .u8)) [(wrap .u8 n9)] rfl ?_;refine Qfr (l:=(l10 ++ [(wrap .u8 n9)])) (n:=(l10.length+1)) sd ?_;obtain rfl:=Qb h;exact u2
def Gs (N:Nat) (s_0:List UInt8):Option (List UInt8):=
 (Qs N (wrap .u64 (s_0.length:Int)) 2).bind fun v1=>
 cond (Nat.ble (v1.length+s_0.length) 4611686018427387904) (some (v1++s_0)) none
theorem Q5b {N} {s_0} {r} (h:Gs N s_0=some r):pU 221 [.str s_0] (.str r):=by
 refine Q2 Qz7 ?_;unfold Gs at h;refine cP h Qm p2 fun v1 h=>?_;refine kU h fun h=>?_;cases h;exact (.p _)
def U6 (N:Nat) (s_0:List UInt8):Option ((List UInt8)×Int):=
 cond (Q6 .gtr (s_0.length:Int) 65535)
 (some ([],2))
 ((Gs N s_0).bind fun v2=>
 some (v2,0))
theorem Q0u {N} {s_0} {r} (h:U6 N s_0=some r):pU 188 [.str s_0] (.tuple [.str r.1,.int .i64 r.2]):=by
 refine Q2 Qum ?_;unfold U6 at h;rw [cX] at h;refine iL2 h fun h=>?_;refine cP h Q5b p1 fun v2 h=>?_;obtain rfl:=Qb h;exact u2
def Uk (N:Nat) (shape:Int) (p:Zw):Option (List UInt8):=
 cond (Q6 .eql shape 1)
 ((Qs N (wrap .u64 p.N') shape).bind fun v2=>
 some v2)
 (cond (Q6 .eql shape 2)
 ((Qs N (wrap .u64 p.N') shape).bind fun v5=>
 some v5)
 (cond (Q6 .eql shape 3)
 ((Qs N (wrap .u64 p.N') 4).bind fun v8=>
 some v8)
 (cond (Q6 .eql shape 4)
 ((U3 N (wrap .i64 p.N')).bind fun v11=>
 some v11.1)
 ((U6 N p.Text).bind fun v13=>
 cond (Q6 .neq shape 7)
 (some v13.1)
 ((U6 N p.Value).bind fun v16=>
 cond (Nat.ble (v13.1.length+v16.1.length) 4611686018427387904) (some (v13.1++v16.1)) none)))))
theorem Jb {N} {shape} {p} {r} (h:Uk N shape p=some r):pU 144 [.int .i64 shape,.agg (Zw.cells p)] (.str r):=by
 refine Q2 Quo ?_;unfold Uk at h;rw [cX] at h;refine ifO h (fun hc1 h=>?_) (fun hc1 h=>?_)
 ·refine ifT hc1 ?_;refine cP h Qm p2 fun v2 h=>?_;cases h;exact (.p _)
 apply iU h<;>intro h
 ·refine cP h Qm p2 fun v5 h=>?_;cases h;exact (.p _)
 apply iU h<;>intro h
 ·refine cP h Qm p2 fun v8 h=>?_;cases h;exact (.p _)
 apply iU h<;>intro h
 ·refine cP h Jj p1 fun v11 h=>?_;cases h;exact (.p _)
 refine cP h Q0u p1 fun v13 h=>?_;refine iL h fun h=>?_;refine cP h Q0u p1 fun v16 h=>?_;refine kU h fun h=>?_;cases h;exact (.p _)
def Gq:List (Int×Qh) := [(1,(⟨1,65544,0,1⟩:Qh)),(2,(⟨3,65544,0,4294967295⟩:Qh)),(3,(⟨5,65544,0,0⟩:Qh)),(8,(⟨5,65544,0,0⟩:Qh)),(9,(⟨6,65544,0,0⟩:Qh)),(11,(⟨4,264,1,268435455⟩:Qh)),(17,(⟨3,16390,0,4294967295⟩:Qh)),(18,(⟨5,4,0,0⟩:Qh)),(19,(⟨2,4,0,65535⟩:Qh)),(21,(⟨5,32774,0,0⟩:Qh)),(22,(⟨6,32774,0,0⟩:Qh)),(23,(⟨1,2,0,1⟩:Qh)),(24,(⟨3,65536,0,4294967295⟩:Qh)),(25,(⟨1,2,0,1⟩:Qh)),(26,(⟨5,4,0,0⟩:Qh)),(28,(⟨5,16388,0,0⟩:Qh)),(31,(⟨5,51956,0,0⟩:Qh)),(33,(⟨2,6,1,65535⟩:Qh)),(34,(⟨2,6,0,65535⟩:Qh)),(35,(⟨2,8,1,65535⟩:Qh)),(36,(⟨1,4,0,1⟩:Qh)),(37,(⟨1,4,0,1⟩:Qh)),(38,(⟨7,118782,0,0⟩:Qh)),(39,(⟨3,6,1,4294967295⟩:Qh)),(40,(⟨1,4,0,1⟩:Qh)),(41,(⟨1,4,0,1⟩:Qh)),(42,(⟨1,4,0,1⟩:Qh))]
theorem Qaz:pU 141 [] (.pmap (Qrp (fun v => .agg (Qh.cells v)) Gq)):=Q85 Qmc (N:=2000) (d:=60) (by kernel_rfl)
def Q0j (_N:Nat) (r_0:Qh) (kind:Int):Option Bool:=
 cond (Q6 .geq kind 1)
 (cond (Q6 .leq kind 16)
 (cond (decide (0≤(wrap .u64 kind))) (some (Q6 .eql (Q0w .i64 (Qa7 .i64 r_0.kinds (wrap .u64 kind)) 1) 1)) none)
 (some false))
 (some false)
theorem Q62 {N} {r_0} {kind} {r} (h:Q0j N r_0 kind=some r):pU 185 [.agg (Qh.cells r_0),.int .i64 kind] (.bool r):=by
 refine Q2 Z3k ?_;unfold Q0j at h;rw [cX] at h;refine iR h fun h=>?_;refine iR h fun h=>?_;refine kU h fun h=>?_;cases h;exact (.p _)
def Uv (_N:Nat) (r_0:Qh) (p:Zw):Option Int:=
 cond (Q31 .neq p.Text [])
 (some 2)
 (cond (Q31 .neq p.Value [])
 (some 2)
 (cond (Q6 .lss p.N' r_0.least)
 (some 9)
 (cond (Q6 .gtr p.N' r_0.most)
 (some 9)
 (some 0))))
theorem Q3u {N} {r_0} {p} {r} (h:Uv N r_0 p=some r):pU 186 [.agg (Qh.cells r_0),.agg (Zw.cells p)] (.int .i64 r):=by
 refine Q2 Z37 ?_;unfold Uv at h;rw [cX,cY] at h;refine iL h fun h=>?_;refine iL h fun h=>?_;refine iL h fun h=>?_;exact iB h
def Q12 (N:Nat) (r_0:Qh) (kind:Int) (p:Zw):Option Int:=
 (Q0j N r_0 kind).bind fun v1=>
 cond (!v1)
 (some 9)
 (cond (Q6 .leq r_0.shape 4)
 ((Uv N r_0 p).bind fun v5=>
 some v5)
 (cond (Q6 .neq p.N' 0)
 (some 2)
 (cond (Q31 .neq p.Value [])
 (cond (Q6 .neq r_0.shape 7)
 (some 2)
 (cond (Q6 .eql r_0.shape 6)
 (cond (Q6 .gtr (p.Text.length:Int) 65535)
 (some 2)
 (some 0))
 ((Y3 N p.Text).bind fun v12=>
 cond (!v12)
 (some 6)
 ((Y3 N p.Value).bind fun v15=>
 cond (!v15)
 (some 6)
 (cond (Q6 .eql p.ID 8)
 ((Y6 N p.Text).bind fun v19=>
 cond (!v19)
 (some 9)
 (some 0))
 (some 0))))))
 (cond (Q6 .eql r_0.shape 6)
 (cond (Q6 .gtr (p.Text.length:Int) 65535)
 (some 2)
 (some 0))
 ((Y3 N p.Text).bind fun v24=>
 cond (!v24)
 (some 6)
 ((Y3 N p.Value).bind fun v27=>
 cond (!v27)
 (some 6)
 (cond (Q6 .eql p.ID 8)
 ((Y6 N p.Text).bind fun v31=>
 cond (!v31)
 (some 9)
 (some 0))
 (some 0))))))))
theorem Q3l {N} {r_0} {kind} {p} {r} (h:Q12 N r_0 kind p=some r):pU 142 [.agg (Qh.cells r_0),.int .i64 kind,.agg (Zw.cells p)] (.int .i64 r):=by
 refine Q2 Qxq ?_;unfold Q12 at h;rw [cX,cY] at h;refine cP h Q62 (.cons q4 p1) fun v1 h=>?_;refine iL h fun h=>?_;apply iU h<;>intro h
 ·refine cP h Q3u (.cons q4 (.cons q4 .nil)) fun v5 h=>?_;cases h;exact (.p _)
 refine iL h fun h=>?_;apply iU h<;>intro h
 ·refine iL h fun h=>?_;apply iU h<;>intro h
  ·exact iB h
  refine cP h Zy p1 fun v12 h=>?_;refine iL h fun h=>?_;refine cP h Zy p1 fun v15 h=>?_;refine iL h fun h=>?_;refine iR h fun h=>?_;refine cP h Zi p1 fun v19 h=>?_;exact iB h
 apply iU h<;>intro h
 ·exact iB h
 refine cP h Zy p1 fun v24 h=>?_;refine iL h fun h=>?_;refine cP h Zy p1 fun v27 h=>?_;refine iL h fun h=>?_;refine iR h fun h=>?_;refine cP h Zi p1 fun v31 h=>?_;exact iB h
def Q13 (_N:Nat) (kind:Int) (id:Int):Option Bool:=
 cond (Q6 .eql id 38)
 (some true)
 (cond (Q6 .eql id 11)
 (some (Q6 .eql kind 3))
 (some false))
theorem Q3k {N} {kind} {id} {r} (h:Q13 N kind id=some r):pU 187 [.int .i64 kind,.int .i64 id] (.bool r):=by
 refine Q2 Z2p ?_;unfold Q13 at h;rw [cX] at h;refine iL h fun h=>?_;exact iB h
def Z5 (N:Nat) (kind:Int) (l:List Zw):Nat->Int->(List Int)->(List Int)->Option ((List UInt8)×Int)
 | 0,_,_,_=>none
 | n+1,s107,l108,l109=>
  cond (Q6 .lss s107 ((Qg Zw.cells l).length:Int))
  ((idx l s107).bind fun y111=>
  Qtm (Qbe Gq y111.ID) (fun m113=>
  (Q12 N m113 kind y111).bind fun v115=>
  cond (Q6 .neq v115 0)
  (some ([],v115))
  (cond (decide (0≤y111.ID)&&decide (y111.ID<((64:Nat):Int))) ((idx (l108:List Int) y111.ID).bind fun y118=>
  (idx (l108:List Int) y111.ID).bind fun y121=>
  (idx (((l108:List Int).set (Int.toNat y111.ID) (wrap .i64 (y118+1))):List Int) y111.ID).bind fun y123=>
  cond (Q6 .gtr y123 1)
  ((Q13 N kind y111.ID).bind fun v126=>
  cond (!v126)
  (some ([],9))
  (cond (Nat.ble ((l109.length+1+4096) * 1) 17592186044416) ((Uk N m113.shape y111).bind fun v130=>
  cond (Nat.beq v130.length 0)
  (Z5 N kind l n (wrap .i64 (s107+1)) ((l108:List Int).set (Int.toNat y111.ID) (wrap .i64 (y118+1))) (l109 ++ [(wrap .u8 y111.ID)]))
  (cond (Nat.ble (((l109.length+1)+v130.length+4096) * 1) 17592186044416) (Z5 N kind l n (wrap .i64 (s107+1)) ((l108:List Int).set (Int.toNat y111.ID) (wrap .i64 (y118+1))) ((l109 ++ [(wrap .u8 y111.ID)])++(v130.map fun b=>(b.toNat:Int)))) none)) none))
  (cond (Nat.ble ((l109.length+1+4096) * 1) 17592186044416) ((Uk N m113.shape y111).bind fun v135=>
  cond (Nat.beq v135.length 0)
  (Z5 N kind l n (wrap .i64 (s107+1)) ((l108:List Int).set (Int.toNat y111.ID) (wrap .i64 (y118+1))) (l109 ++ [(wrap .u8 y111.ID)]))
  (cond (Nat.ble (((l109.length+1)+v135.length+4096) * 1) 17592186044416) (Z5 N kind l n (wrap .i64 (s107+1)) ((l108:List Int).set (Int.toNat y111.ID) (wrap .i64 (y118+1))) ((l109 ++ [(wrap .u8 y111.ID)])++(v135.map fun b=>(b.toNat:Int)))) none)) none)) none))
  ((Q12 N (⟨0,0,0,0⟩:Qh) kind y111).bind fun v139=>
  cond (Q6 .neq v139 0)
  (some ([],v139))
  (cond (decide (0≤y111.ID)&&decide (y111.ID<((64:Nat):Int))) ((idx (l108:List Int) y111.ID).bind fun y142=>
  (idx (l108:List Int) y111.ID).bind fun y145=>
  (idx (((l108:List Int).set (Int.toNat y111.ID) (wrap .i64 (y142+1))):List Int) y111.ID).bind fun y147=>
  cond (Q6 .gtr y147 1)
  ((Q13 N kind y111.ID).bind fun v150=>
  cond (!v150)
  (some ([],9))
  (cond (Nat.ble ((l109.length+1+4096) * 1) 17592186044416) ((Uk N 0 y111).bind fun v154=>
  cond (Nat.beq v154.length 0)
  (Z5 N kind l n (wrap .i64 (s107+1)) ((l108:List Int).set (Int.toNat y111.ID) (wrap .i64 (y142+1))) (l109 ++ [(wrap .u8 y111.ID)]))
  (cond (Nat.ble (((l109.length+1)+v154.length+4096) * 1) 17592186044416) (Z5 N kind l n (wrap .i64 (s107+1)) ((l108:List Int).set (Int.toNat y111.ID) (wrap .i64 (y142+1))) ((l109 ++ [(wrap .u8 y111.ID)])++(v154.map fun b=>(b.toNat:Int)))) none)) none))
  (cond (Nat.ble ((l109.length+1+4096) * 1) 17592186044416) ((Uk N 0 y111).bind fun v159=>
  cond (Nat.beq v159.length 0)
  (Z5 N kind l n (wrap .i64 (s107+1)) ((l108:List Int).set (Int.toNat y111.ID) (wrap .i64 (y142+1))) (l109 ++ [(wrap .u8 y111.ID)]))
  (cond (Nat.ble (((l109.length+1)+v159.length+4096) * 1) 17592186044416) (Z5 N kind l n (wrap .i64 (s107+1)) ((l108:List Int).set (Int.toNat y111.ID) (wrap .i64 (y142+1))) ((l109 ++ [(wrap .u8 y111.ID)])++(v159.map fun b=>(b.toNat:Int)))) none)) none)) none)))
  ((idx (l108:List Int) 22).bind fun y163=>
  cond (Q6 .gtr y163 0)
  ((idx (l108:List Int) 21).bind fun y166=>
  cond (Q6 .eql y166 0)
  (some ([],9))
  ((U3 N (l109.length:Int)).bind fun v169=>
  cond (Q6 .neq v169.2 0)
  (some ([],4))
  (cond (Nat.ble (v169.1.length+(l109.map fun n=>UInt8.ofNat n.toNat).length) 4611686018427387904) (some ((v169.1++(l109.map fun n=>UInt8.ofNat n.toNat)),0)) none)))
  ((U3 N (l109.length:Int)).bind fun v173=>
  cond (Q6 .neq v173.2 0)
  (some ([],4))
  (cond (Nat.ble (v173.1.length+(l109.map fun n=>UInt8.ofNat n.toNat).length) 4611686018427387904) (some ((v173.1++(l109.map fun n=>UInt8.ofNat n.toNat)),0)) none)))
def Q3a (N:Nat) (kind:Int) (l:List Zw):Option ((List UInt8)×Int):=
 cond (Q6 .gtr ((Qg Zw.cells l).length:Int) 1000)
 (some ([],4))
 (Z5 N kind l N 0 [0,0,0,0,0,0,0,0,0,0,0,0,0,0,0,0,0,0,0,0,0,0,0,0,0,0,0,0,0,0,0,0,0,0,0,0,0,0,0,0,0,0,0,0,0,0,0,0,0,0,0,0,0,0,0,0,0,0,0,0,0,0,0,0] [])
theorem Qag {N} {kind} {l} {r} (h:Q3a N kind l=some r):pU 99 [.int .i64 kind,.slice 4 (Qg Zw.cells l)] (.tuple [.str r.1,.int .i64 r.2]):=by
 refine Q2 k99 ?_;unfold Q3a at h;rw [cX] at h;refine iL2 h fun h=>?_;refine Y1 Qaz .nil ?_;refine lpA (τ:=Int×(List Int)×(List Int)) (fun ⟨s107,_,l109⟩=>(iI kind::a4 (.any :: .p (.pmap (Qrp (fun v => .agg (Qh.cells v)) Gq)) :: .ptr 0 0 :: .slice 1 1 0 l109.length::a8 (a2 (.p (.slice 4 (Qg Zw.cells l))::iI ((Qg Zw.cells l).length:Int)::iI s107::a16 (a16 (a8 (a2 (.any :: []))))))):List AV)) (fun ⟨_,l108,l109⟩=>(.cells (Z0 (cI .i64) l108) :: .cells (Z0 (cI .u8) l109) :: []:List AObj)) (fun n0 ⟨s107,l108,l109⟩=>Z5 N kind l n0 s107 l108 l109) (0,[0,0,0,0,0,0,0,0,0,0,0,0,0,0,0,0,0,0,0,0,0,0,0,0,0,0,0,0,0,0,0,0,0,0,0,0,0,0,0,0,0,0,0,0,0,0,0,0,0,0,0,0,0,0,0,0,0,0,0,0,0,0,0,0],[]) h fun n0 ⟨s107,l108,l109⟩ h=>?_
 first | rw [Z5] at h | simp only [Z5] at h
 rw [cX] at h;apply iU h<;>intro h
 ·refine xR h fun y111 h=>?_;refine Qom h (fun m113 hm114 h=>?_) (fun hm114 h=>?_)
  ·refine cP h Q3l (.cons q4 (.cons (.p _) (.cons q4 .nil))) fun v115 h=>?_;refine iL2 h fun h=>?_;refine Q3 Qu5 ?_;refine Qa ?_;obtain ⟨hk120,h⟩:=Q3x h;refine Uo hk120 ?_;obtain ⟨y118,hy119,h⟩:=Vd h
   refine Jo (c:=(cI .i64)) (e:=1) (fun _=>rfl) hy119 (off:=0) (by decide) (by first | omega | (simp only [Q0w,orI,Qfs,V9,Q37,Qa7];omega)) ?_
   refine Uo hk120 ?_;obtain ⟨y121,hy122,h⟩:=Vd h;refine Uo (Vh (c:=(cI .i64)) (e:=1) (fun _=>rfl) hy122 (off:=0) (by omega) rfl (by decide)) ?_
   refine Vk (c:=(cI .i64)) (e:=1) (fun _=>rfl) hy122 (wrap .i64 (y118+1)) (off:=0) (by first | omega | (simp only [Q0w,orI,Qfs,V9,Q37,Qa7];omega)) rfl (by simp) ?_
   refine Uo hk120 ?_;obtain ⟨y123,hy124,h⟩:=Vd h
   refine Jo (c:=(cI .i64)) (e:=1) (fun _=>rfl) hy124 (off:=0) (by decide) (by first | omega | (simp only [Q0w,orI,Qfs,V9,Q37,Qa7];omega)) ?_
   apply iU h<;>intro h
   ·refine cP h Q3k p2 fun v126 h=>?_;refine iL2 h fun h=>?_;refine Qa ?_;obtain ⟨hk129,h⟩:=Q3x h;refine Uo (Xg (c:=(cI .u8)) (e:=1) (fun _=>rfl) sd hk129) ?_;refine U1 (c:=(cI .u8)) [(wrap .u8 y111.ID)] rfl ?_;refine cD h Jb (.cons (.p _) (.cons q4 .nil)) fun v130 h=>?_;refine Q1a (b:=v130) ?_;apply iU h<;>intro h
    ·show Exists _;exact ⟨(n0,(wrap .i64 (s107+1)),((l108:List Int).set (Int.toNat y111.ID) (wrap .i64 (y118+1))),(l109 ++ [(wrap .u8 y111.ID)])),h,Ll _,(rho [0,5]),Z2⟩
    obtain ⟨hk133,h⟩:=Q3x h;refine Uo (Xg (c:=(cI .u8)) (e:=1) (l:=(l109 ++ [(wrap .u8 y111.ID)])) (fun _=>rfl) sd hk133) ?_;refine U1 (c:=(cI .u8)) (l:=(l109 ++ [(wrap .u8 y111.ID)])) (v130.map fun b=>(b.toNat:Int)) rfl ?_;show Exists _;exact ⟨(n0,(wrap .i64 (s107+1)),((l108:List Int).set (Int.toNat y111.ID) (wrap .i64 (y118+1))),((l109 ++ [(wrap .u8 y111.ID)])++(v130.map fun b=>(b.toNat:Int)))),h,Ll _,(rho [0,6]),Z2⟩
   refine Qa ?_;obtain ⟨hk134,h⟩:=Q3x h;refine Uo (Xg (c:=(cI .u8)) (e:=1) (fun _=>rfl) sd hk134) ?_;refine U1 (c:=(cI .u8)) [(wrap .u8 y111.ID)] rfl ?_;refine cD h Jb (.cons (.p _) (.cons q4 .nil)) fun v135 h=>?_;refine Q1a (b:=v135) ?_;apply iU h<;>intro h
   ·show Exists _;exact ⟨(n0,(wrap .i64 (s107+1)),((l108:List Int).set (Int.toNat y111.ID) (wrap .i64 (y118+1))),(l109 ++ [(wrap .u8 y111.ID)])),h,Ll _,(rho [0,5]),Z2⟩
   obtain ⟨hk138,h⟩:=Q3x h;refine Uo (Xg (c:=(cI .u8)) (e:=1) (l:=(l109 ++ [(wrap .u8 y111.ID)])) (fun _=>rfl) sd hk138) ?_;refine U1 (c:=(cI .u8)) (l:=(l109 ++ [(wrap .u8 y111.ID)])) (v135.map fun b=>(b.toNat:Int)) rfl ?_;show Exists _;exact ⟨(n0,(wrap .i64 (s107+1)),((l108:List Int).set (Int.toNat y111.ID) (wrap .i64 (y118+1))),((l109 ++ [(wrap .u8 y111.ID)])++(v135.map fun b=>(b.toNat:Int)))),h,Ll _,(rho [0,6]),Z2⟩
  refine cP h Q3l (.cons q4 (.cons (.p _) (.cons q4 .nil))) fun v139 h=>?_;refine iL2 h fun h=>?_;refine Q3 Qu5 ?_;refine Qa ?_;obtain ⟨hk144,h⟩:=Q3x h;refine Uo hk144 ?_;obtain ⟨y142,hy143,h⟩:=Vd h
  refine Jo (c:=(cI .i64)) (e:=1) (fun _=>rfl) hy143 (off:=0) (by decide) (by first | omega | (simp only [Q0w,orI,Qfs,V9,Q37,Qa7];omega)) ?_
  refine Uo hk144 ?_;obtain ⟨y145,hy146,h⟩:=Vd h;refine Uo (Vh (c:=(cI .i64)) (e:=1) (fun _=>rfl) hy146 (off:=0) (by omega) rfl (by decide)) ?_
  refine Vk (c:=(cI .i64)) (e:=1) (fun _=>rfl) hy146 (wrap .i64 (y142+1)) (off:=0) (by first | omega | (simp only [Q0w,orI,Qfs,V9,Q37,Qa7];omega)) rfl (by simp) ?_
  refine Uo hk144 ?_;obtain ⟨y147,hy148,h⟩:=Vd h
  refine Jo (c:=(cI .i64)) (e:=1) (fun _=>rfl) hy148 (off:=0) (by decide) (by first | omega | (simp only [Q0w,orI,Qfs,V9,Q37,Qa7];omega)) ?_
  apply iU h<;>intro h
  ·refine cP h Q3k p2 fun v150 h=>?_;refine iL2 h fun h=>?_;refine Qa ?_;obtain ⟨hk153,h⟩:=Q3x h;refine Uo (Xg (c:=(cI .u8)) (e:=1) (fun _=>rfl) sd hk153) ?_;refine U1 (c:=(cI .u8)) [(wrap .u8 y111.ID)] rfl ?_;refine cD h Jb (.cons (.p _) (.cons q4 .nil)) fun v154 h=>?_;refine Q1a (b:=v154) ?_;apply iU h<;>intro h
   ·show Exists _;exact ⟨(n0,(wrap .i64 (s107+1)),((l108:List Int).set (Int.toNat y111.ID) (wrap .i64 (y142+1))),(l109 ++ [(wrap .u8 y111.ID)])),h,Ll _,(rho [0,5]),Z2⟩
   obtain ⟨hk157,h⟩:=Q3x h;refine Uo (Xg (c:=(cI .u8)) (e:=1) (l:=(l109 ++ [(wrap .u8 y111.ID)])) (fun _=>rfl) sd hk157) ?_;refine U1 (c:=(cI .u8)) (l:=(l109 ++ [(wrap .u8 y111.ID)])) (v154.map fun b=>(b.toNat:Int)) rfl ?_;show Exists _;exact ⟨(n0,(wrap .i64 (s107+1)),((l108:List Int).set (Int.toNat y111.ID) (wrap .i64 (y142+1))),((l109 ++ [(wrap .u8 y111.ID)])++(v154.map fun b=>(b.toNat:Int)))),h,Ll _,(rho [0,6]),Z2⟩
  refine Qa ?_;obtain ⟨hk158,h⟩:=Q3x h;refine Uo (Xg (c:=(cI .u8)) (e:=1) (fun _=>rfl) sd hk158) ?_;refine U1 (c:=(cI .u8)) [(wrap .u8 y111.ID)] rfl ?_;refine cD h Jb (.cons (.p _) (.cons q4 .nil)) fun v159 h=>?_;refine Q1a (b:=v159) ?_;apply iU h<;>intro h
  ·show Exists _;exact ⟨(n0,(wrap .i64 (s107+1)),((l108:List Int).set (Int.toNat y111.ID) (wrap .i64 (y142+1))),(l109 ++ [(wrap .u8 y111.ID)])),h,Ll _,(rho [0,5]),Z2⟩
  obtain ⟨hk162,h⟩:=Q3x h;refine Uo (Xg (c:=(cI .u8)) (e:=1) (l:=(l109 ++ [(wrap .u8 y111.ID)])) (fun _=>rfl) sd hk162) ?_;refine U1 (c:=(cI .u8)) (l:=(l109 ++ [(wrap .u8 y111.ID)])) (v159.map fun b=>(b.toNat:Int)) rfl ?_;show Exists _;exact ⟨(n0,(wrap .i64 (s107+1)),((l108:List Int).set (Int.toNat y111.ID) (wrap .i64 (y142+1))),((l109 ++ [(wrap .u8 y111.ID)])++(v159.map fun b=>(b.toNat:Int)))),h,Ll _,(rho [0,6]),Z2⟩
 refine Q3 Z2d ?_;obtain ⟨y163,hy164,h⟩:=Vd h;refine Jo (c:=(cI .i64)) (e:=1) (n:=1) (j:=22) (fun _=>rfl) hy164 (off:=0) (by decide) rfl ?_;apply iU h<;>intro h
 ·obtain ⟨y166,hy167,h⟩:=Vd h;refine Jo (c:=(cI .i64)) (e:=1) (n:=1) (j:=21) (fun _=>rfl) hy167 (off:=0) (by decide) rfl ?_;refine iL2 h fun h=>?_;refine cP h Jj p1 fun v169 h=>?_;refine iL2 h fun h=>?_;refine Qfr (l:=l109) (n:=l109.length) sd ?_;refine kU h fun h=>?_;obtain rfl:=Qb h;exact u2
 refine cP h Jj p1 fun v173 h=>?_;refine iL2 h fun h=>?_;refine Qfr (l:=l109) (n:=l109.length) sd ?_;refine kU h fun h=>?_;obtain rfl:=Qb h;exact u2
def Q3f (N:Nat) (kind:Int) (l:List Zw):Option Int:=
 (Q3a N kind l).bind fun v1=>
 some v1.2
theorem Q97 {N} {kind} {l} {r} (h:Q3f N kind l=some r):pU 72 [.int .i64 kind,.slice 4 (Qg Zw.cells l)] (.int .i64 r):=by
 refine Q2 k72 ?_;unfold Q3f at h;refine cP h Qag p2 fun v1 h=>?_;cases h;exact (.p _)
def Q11:List (Int×Wi) := [(1,(⟨[109,113,116,116,51]⟩:Wi)),(2,(⟨[109,113,116,116,53]⟩:Wi)),(3,(⟨[115,110]⟩:Wi)),(4,(⟨[97,109,113,112]⟩:Wi))]
theorem Q7u:pU 95 [] (.pmap (Qrp (fun v => .agg (Wi.cells v)) Q11)):=Q85 Qmc (N:=2000) (d:=60) (by kernel_rfl)
def Q2n (_N:Nat) (proto:Int):Option Bool:=
 Qtm (Qbe Q11 proto) (fun m1=>
 some true)
 (some false)
theorem Q8f {N} {proto} {r} (h:Q2n N proto=some r):pU 58 [.int .i64 proto] (.bool r):=by
 refine Q2 k58 ?_;unfold Q2n at h;refine Y1 Q7u .nil ?_;refine Qom h (fun m1 hm2 h=>?_) (fun hm2 h=>?_)
 ·cases h;exact (.p _)
 cases h;exact (.p _)
def Wx (N:Nat) (e:Zj):Option Int:=
 (Q44 N e).bind fun v71=>
 cond (!v71)
 (some 2)
 ((Q3f N 3 e.Props).bind fun v77=>
 cond (Q6 .neq v77 0)
 (some 9)
 (some 0))
def V2 (N:Nat) (e:Zj):Option Int:=
 (Wq N e.Channel 0 65535).bind fun v61=>
 cond (!v61)
 (some 2)
 (cond (Q6 .neq e.Channel 0)
 (cond (Q6 .neq e.Proto 4)
 (some 2)
 (Wx N e))
 (Wx N e))
def V3 (N:Nat) (e:Zj):Option Int:=
 cond (Q6 .eql e.Proto 3)
 ((Q2x N e).bind fun v53=>
 cond (!v53)
 (some 2)
 (V2 N e))
 (cond (Q6 .neq e.Type' 0)
 (some 2)
 (cond (Q6 .gtr ((Qg V5.cells e.Hops).length:Int) 0)
 (some 2)
 (V2 N e)))
def Xt (N:Nat) (e:Zj):Option Int:=
 cond (Q6 .gtr ((Qg Zw.cells e.Props).length:Int) 0)
 (cond (Q6 .neq e.Proto 2)
 (some 2)
 (V3 N e))
 (V3 N e)
def V1 (N:Nat) (e:Zj) (c2:Bool):Option Int:=
 (Wq N e.ID 0 65535).bind fun v32=>
 cond (!v32)
 (some 2)
 (cond (!(c2 == (Q6 .neq e.ID 0)))
 (some 2)
 (cond e.Dup
 (cond (!c2)
 (cond (!(Q6 .eql e.Proto 3))
 (some 2)
 (Xt N e))
 (Xt N e))
 (Xt N e)))
def Wz (N:Nat) (e:Zj) (c2:Bool):Option Int:=
 (Q2n N e.Proto).bind fun v8=>
 cond (!v8)
 (some 2)
 (cond (Q6 .neq e.Kind 1)
 (some 2)
 ((Y6 N e.Topic).bind fun v15=>
 cond (!v15)
 (some 10)
 ((Wq N e.QoS 0 2).bind fun v23=>
 cond (!v23)
 (cond (Q6 .eql e.Proto 3)
 (cond (!(Q6 .eql e.QoS (-1)))
 (some 2)
 (V1 N e c2))
 (some 2))
 (V1 N e c2))))
def Q0r (N:Nat) (e:Zj):Option Int:=
 cond (Q6 .eql e.QoS 1)
 (Wz N e true)
 (Wz N e (Q6 .eql e.QoS 2))
theorem Q66 {N} {e} {r} (h:Q0r N e=some r):pU 34 [.agg (Zj.cells e)] (.int .i64 r):=by
 refine Q2 k34 ?_;unfold Q0r at h;rw [cX] at h;refine jrA (r:=r) (σ:=Bool) (fun _=>(.any :: .ptr 0 0 :: .any :: .ptr 1 0 :: .ptr 2 0::a16 (a16 (a16 (.any :: []))):List AV)) (fun c2=>(.cells (Qnd e ([])) :: .cells (.p (.bool (Qme .eql e.Proto 3)) :: []) :: .cells (.p (.bool c2) :: []) :: []:List AObj)) (fun c2=>Wz N e c2) ?_ ?_
 ·apply iU h<;>intro h
  ·show Exists _;exact ⟨(true),h,(fun i=>i),Z2⟩
  show Exists _;exact ⟨((Qme .eql e.QoS 2)),h,(fun i=>i),Z2⟩
 rintro c2 h
 unfold Wz at h;rw [cX] at h;refine rdI 13 ?_;refine rdP ?_;refine dT ?_;refine Q3 k57 ?_;refine cP h Q8f p1 fun v8 h=>?_;refine iL h fun h=>?_;refine iL h fun h=>?_;refine rdP ?_;refine dT ?_;refine Q3 k59 ?_;refine cP h Zi p1 fun v15 h=>?_;refine iL h fun h=>?_;refine rdJ (r:=r) (x:=V1 N e c2) (a16 (a16 (a8 (a2 (.slice 2 3 0 11::iI 11::iI 3::a8 (.any :: [])))))) ?_ ?_
 ·refine dT ?_;refine Q3 k60 ?_;refine cP h Vs p3 fun v23 h=>?_;apply iU h<;>intro h
  ·refine iR h fun h=>?_;refine iL h fun h=>?_;show Exists _;exact ⟨(),h,(fun i=>i),Z2⟩
  show Exists _;exact ⟨(),h,(fun i=>i),Z2⟩
 intro h;unfold V1 at h;rw [cX] at h;refine rdP ?_;refine dT ?_;refine Q3 k62 ?_;refine cP h Vs p3 fun v32 h=>?_;refine iL h fun h=>?_;refine iL h fun h=>?_;refine rdJ (r:=r) (x:=Xt N e) (a16 (a16 (a8 (a2 (.slice 2 3 0 11::iI 11::iI 5::a8 (.any :: [])))))) ?_ ?_
 ·refine dT ?_;refine Q3 k63 ?_;apply iU h<;>intro h
  ·apply iU h<;>intro h
   ·refine iL h fun h=>?_;show Exists _;exact ⟨(),h,(fun i=>i),Z2⟩
   show Exists _;exact ⟨(),h,(fun i=>i),Z2⟩
  show Exists _;exact ⟨(),h,(fun i=>i),Z2⟩
 intro h;unfold Xt at h;rw [cX] at h;refine rdJ (r:=r) (x:=V3 N e) (a16 (a16 (a8 (a2 (.slice 2 3 0 11::iI 11::iI 6::a8 (.any :: [])))))) ?_ ?_
 ·refine dT ?_;refine Q3 k64 ?_;apply iU h<;>intro h
  ·refine iL h fun h=>?_;show Exists _;exact ⟨(),h,(fun i=>i),Z2⟩
  show Exists _;exact ⟨(),h,(fun i=>i),Z2⟩
 intro h;unfold V3 at h;rw [cX] at h;refine rdJ (r:=r) (x:=V2 N e) (a16 (a16 (a8 (a2 (.slice 2 3 0 11::iI 11::iI 7::a8 (.any :: [])))))) ?_ ?_
 ·refine dT ?_;refine Q3 k65 ?_;refine ifO h (fun hc52 h=>?_) (fun hc52 h=>?_)
  ·refine cP h Q8n (.cons (Ar (V6 (V6 (V6 za)))) .nil) fun v53 h=>?_;refine iL h fun h=>?_;refine ifF (Qtc hc52) ?_;show Exists _;exact ⟨(),h,(fun i=>i),Z2⟩
  refine ifT (Qu4 hc52) ?_;refine iL h fun h=>?_;refine iL h fun h=>?_;show Exists _;exact ⟨(),h,(fun i=>i),Z2⟩
 intro h;unfold V2 at h;rw [cX] at h;refine rdP ?_;refine dT ?_;refine Q3 k67 ?_;refine cP h Vs p3 fun v61 h=>?_;refine iL h fun h=>?_;refine rdJ (r:=r) (x:=Wx N e) (a16 (a16 (a8 (a2 (.slice 2 3 0 11::iI 11::iI 9::a8 (.any :: [])))))) ?_ ?_
 ·refine dT ?_;refine Q3 k68 ?_;apply iU h<;>intro h
  ·refine iL h fun h=>?_;show Exists _;exact ⟨(),h,(fun i=>i),Z2⟩
  show Exists _;exact ⟨(),h,(fun i=>i),Z2⟩
 intro h;unfold Wx at h;rw [cX] at h;refine rdP ?_;refine dT ?_;refine Q3 k69 ?_;refine cP h Qa5 (.cons (Ar (V6 (V6 (V6 za)))) .nil) fun v71 h=>?_;refine iL h fun h=>?_;refine rdP ?_;refine dT ?_;refine Q3 k71 ?_;refine cP h Q97 p2 fun v77 h=>?_;refine iL h fun h=>?_;refine rdP ?_;refine dF ?_;cases h;exact (.p _)
def U2 (N:Nat) (a:List Zw) (b:List Zw):Nat->Int->Option Bool
 | 0,_=>none
 | n+1,s15=>
  cond (Q6 .lss s15 ((Qg Zw.cells a).length:Int))
  ((idx a s15).bind fun y17=>
  (idx b s15).bind fun y19=>
  cond (!(((y17.ID:Int) == y19.ID)&&(((y17.N':Int) == y19.N')&&(((y17.Text:List UInt8) == y19.Text)&&(((y17.Value:List UInt8) == y19.Value)&&true)))))
  (some false)
  (U2 N a b n (wrap .i64 (s15+1))))
  (some true)
def Q5m (N:Nat) (a:List Zw) (b:List Zw):Option Bool:=
 cond (Q6 .neq ((Qg Zw.cells a).length:Int) ((Qg Zw.cells b).length:Int))
 (some false)
 (U2 N a b N 0)
theorem Qbb {N} {a} {b} {r} (h:Q5m N a b=some r):pU 100 [.slice 4 (Qg Zw.cells a),.slice 4 (Qg Zw.cells b)] (.bool r):=by
 refine Q2 Z44 ?_;unfold Q5m at h;rw [cX] at h;refine iL h fun h=>?_;refine lpH (τ:=Int) (fun s15=>(.p (.slice 4 (Qg Zw.cells a)) :: .p (.slice 4 (Qg Zw.cells b))::a8 (a2 (iI ((Qg Zw.cells a).length:Int)::iI s15::a8 (a4 ([])))):List AV)) (fun n0 s15=>U2 N a b n0 s15) (0) h fun n0 s15 h=>?_
 first | rw [U2] at h | simp only [U2] at h
 rw [cX] at h;refine iR h fun h=>?_;refine Qa ?_;refine xR h fun y17 h=>?_;refine xR h fun y19 h=>?_;refine iL h fun h=>?_;show Exists _;exact ⟨(n0,(wrap .i64 (s15+1))),h,Ll _,(fun i=>i),Z2⟩
def Qy (N:Nat) (s1_0:List V5) (s2_1:List V5):Nat->Int->Option Bool
 | 0,_=>none
 | n+1,s15=>
  cond (Q6 .lss s15 ((Qg V5.cells s1_0).length:Int))
  ((idx s1_0 s15).bind fun y17=>
  (idx s2_1 s15).bind fun y19=>
  cond (!(((y17.Radius:Int) == y19.Radius)&&(((y17.Node:List UInt8) == y19.Node)&&true)))
  (some false)
  (Qy N s1_0 s2_1 n (wrap .i64 (s15+1))))
  (some true)
def Yl (N:Nat) (s1_0:List V5) (s2_1:List V5):Option Bool:=
 cond (Q6 .neq ((Qg V5.cells s1_0).length:Int) ((Qg V5.cells s2_1).length:Int))
 (some false)
 (Qy N s1_0 s2_1 N 0)
theorem J8 {N} {s1_0} {s2_1} {r} (h:Yl N s1_0 s2_1=some r):pU 101 [.slice 2 (Qg V5.cells s1_0),.slice 2 (Qg V5.cells s2_1)] (.bool r):=by
 refine Q2 Z38 ?_;unfold Yl at h;rw [cX] at h;refine iL h fun h=>?_;refine lpH (τ:=Int) (fun s15=>(.p (.slice 2 (Qg V5.cells s1_0)) :: .p (.slice 2 (Qg V5.cells s2_1))::a8 (a2 (iI ((Qg V5.cells s1_0).length:Int)::iI s15::a8 (a4 ([])))):List AV)) (fun n0 s15=>Qy N s1_0 s2_1 n0 s15) (0) h fun n0 s15 h=>?_
 first | rw [Qy] at h | simp only [Qy] at h
 rw [cX] at h;refine iR h fun h=>?_;refine Qa ?_;refine xR h fun y17 h=>?_;refine xR h fun y19 h=>?_;refine iL h fun h=>?_;show Exists _;exact ⟨(n0,(wrap .i64 (s15+1))),h,Ll _,(fun i=>i),Z2⟩
def Ul (N:Nat) (a:Zj) (b:Zj):Option Bool:=
 cond (Q6 .neq a.Proto b.Proto)
 (some false)
 (cond (Q6 .neq a.Kind b.Kind)
 (some false)
 (cond (Q31 .neq a.Topic b.Topic)
 (some false)
 (cond (Q31 .neq a.Payload b.Payload)
 (some false)
 (cond (Q6 .neq a.QoS b.QoS)
 (some false)
 (cond (!(a.Retain == b.Retain))
 (some false)
 (cond (!(a.Dup == b.Dup))
 (some false)
 (cond (Q6 .neq a.ID b.ID)
 (some false)
 (cond (Q6 .neq a.Type' b.Type')
 (some false)
 (cond (Q6 .neq a.Channel b.Channel)
 (some false)
 ((Q5m N a.Props b.Props).bind fun v11=>
 cond v11
 ((Yl N a.Hops b.Hops).bind fun v14=>
 cond v14
 ((Q2m N a.Packet b.Packet).bind fun v17=>
 cond v17
 (cond (((a.Msg.Type':Int) == b.Msg.Type')&&(((a.Msg.Flags.Dup:Bool) == b.Msg.Flags.Dup)&&(((a.Msg.Flags.QoS:Int) == b.Msg.Flags.QoS)&&(((a.Msg.Flags.Retain:Bool) == b.Msg.Flags.Retain)&&(((a.Msg.Flags.Will:Bool) == b.Msg.Flags.Will)&&(((a.Msg.Flags.Clean:Bool) == b.Msg.Flags.Clean)&&(((a.Msg.Flags.Type':Int) == b.Msg.Flags.Type')&&(((a.Msg.Gateway:Int) == b.Msg.Gateway)&&(((a.Msg.Radius:Int) == b.Msg.Radius)&&(((a.Msg.Time:Int) == b.Msg.Time)&&(((a.Msg.Timed:Bool) == b.Msg.Timed)&&(((a.Msg.TopicID:Int) == b.Msg.TopicID)&&(((a.Msg.MsgID:Int) == b.Msg.MsgID)&&(((a.Msg.Code:Int) == b.Msg.Code)&&(((a.Msg.Name:List UInt8) == b.Msg.Name)&&(((a.Msg.Data:List UInt8) == b.Msg.Data)&&true))))))))))))))))
 ((J3 N a.Frame b.Frame).bind fun v21=>
 some v21)
 (some false))
 (some false))
 (some false))
 (some false)))))))))))
theorem Jc {N} {a} {b} {r} (h:Ul N a b=some r):pU 73 [.agg (Zj.cells a),.agg (Zj.cells b)] (.bool r):=by
 refine Q2 k73 ?_;unfold Ul at h;rw [cX,cY] at h;refine iL h fun h=>?_;refine iL h fun h=>?_;refine iL h fun h=>?_;refine iL h fun h=>?_;refine iL h fun h=>?_;refine iL h fun h=>?_;refine iL h fun h=>?_;refine iL h fun h=>?_;refine iL h fun h=>?_;refine iL h fun h=>?_;refine cP h Qbb p2 fun v11 h=>?_;refine iR h fun h=>?_;refine cP h J8 p2 fun v14 h=>?_;refine iR h fun h=>?_;refine cP h Q51 (.cons zb zc) fun v17 h=>?_;refine iR h fun h=>?_;refine Qkj (ks := [0,2,0,2,2,2,0,0,0,0,2,0,0,0,1,1]) (xs := [iI a.Msg.Type',.p (.bool a.Msg.Flags.Dup),iI a.Msg.Flags.QoS,.p (.bool a.Msg.Flags.Retain),.p (.bool a.Msg.Flags.Will),.p (.bool a.Msg.Flags.Clean),iI a.Msg.Flags.Type',iI a.Msg.Gateway,iI a.Msg.Radius,iI a.Msg.Time,.p (.bool a.Msg.Timed),iI a.Msg.TopicID,iI a.Msg.MsgID,iI a.Msg.Code,iS a.Msg.Name,iS a.Msg.Data]) (ys := [iI b.Msg.Type',.p (.bool b.Msg.Flags.Dup),iI b.Msg.Flags.QoS,.p (.bool b.Msg.Flags.Retain),.p (.bool b.Msg.Flags.Will),.p (.bool b.Msg.Flags.Clean),iI b.Msg.Flags.Type',iI b.Msg.Gateway,iI b.Msg.Radius,iI b.Msg.Time,.p (.bool b.Msg.Timed),iI b.Msg.TopicID,iI b.Msg.MsgID,iI b.Msg.Code,iS b.Msg.Name,iS b.Msg.Data]) (b:=(((a.Msg.Type':Int) == b.Msg.Type')&&(((a.Msg.Flags.Dup:Bool) == b.Msg.Flags.Dup)&&(((a.Msg.Flags.QoS:Int) == b.Msg.Flags.QoS)&&(((a.Msg.Flags.Retain:Bool) == b.Msg.Flags.Retain)&&(((a.Msg.Flags.Will:Bool) == b.Msg.Flags.Will)&&(((a.Msg.Flags.Clean:Bool) == b.Msg.Flags.Clean)&&(((a.Msg.Flags.Type':Int) == b.Msg.Flags.Type')&&(((a.Msg.Gateway:Int) == b.Msg.Gateway)&&(((a.Msg.Radius:Int) == b.Msg.Radius)&&(((a.Msg.Time:Int) == b.Msg.Time)&&(((a.Msg.Timed:Bool) == b.Msg.Timed)&&(((a.Msg.TopicID:Int) == b.Msg.TopicID)&&(((a.Msg.MsgID:Int) == b.Msg.MsgID)&&(((a.Msg.Code:Int) == b.Msg.Code)&&(((a.Msg.Name:List UInt8) == b.Msg.Name)&&(((a.Msg.Data:List UInt8) == b.Msg.Data)&&true))))))))))))))))) rfl ?_;refine iR h fun h=>?_;refine cP h Q18 (.cons q4 (.cons q4 .nil)) fun v21 h=>?_;cases h;exact (.p _)
def Q2z (N:Nat) (e:Zj) (l:Zv):Option Int:=
 cond (Q6 .eql e.Proto 1)
 ((Ul N (⟨e.Proto,e.Kind,[],[],0,false,false,0,[],0,[],0,e.Packet,(⟨0,(⟨false,0,false,false,false,0⟩:Qp),0,0,0,false,0,0,0,[],[]⟩:X1),(⟨0,0,[],[]⟩:Vl)⟩:Zj) e).bind fun v2=>
 cond (!v2)
 (some 2)
 (cond (Q6 .eql e.Packet.Kind 3)
 (some 2)
 (none)))
 (cond (Q6 .eql e.Proto 2)
 ((Ul N (⟨e.Proto,e.Kind,[],[],0,false,false,0,[],0,[],0,e.Packet,(⟨0,(⟨false,0,false,false,false,0⟩:Qp),0,0,0,false,0,0,0,[],[]⟩:X1),(⟨0,0,[],[]⟩:Vl)⟩:Zj) e).bind fun v7=>
 cond (!v7)
 (some 2)
 (cond (Q6 .eql e.Packet.Kind 3)
 (some 2)
 (none)))
 (cond (Q6 .eql e.Proto 3)
 ((Ul N (⟨e.Proto,e.Kind,[],[],0,false,false,0,[],0,e.Hops,0,(⟨0,false,false,0,0,[],[],false,0,[],false,[],false,[],false,(⟨[],[],0,false,[]⟩:Q1p),false,0,[],[],[]⟩:X8),e.Msg,(⟨0,0,[],[]⟩:Vl)⟩:Zj) e).bind fun v12=>
 cond (!v12)
 (some 2)
 (cond (Q6 .eql e.Msg.Type' 12)
 (some 2)
 ((Zx N (⟨e.Hops,e.Msg⟩:Qf) l).bind fun v16=>
 some v16)))
 (cond (Q6 .eql e.Proto 4)
 ((Ul N (⟨e.Proto,e.Kind,[],[],0,false,false,0,[],0,[],0,(⟨0,false,false,0,0,[],[],false,0,[],false,[],false,[],false,(⟨[],[],0,false,[]⟩:Q1p),false,0,[],[],[]⟩:X8),(⟨0,(⟨false,0,false,false,false,0⟩:Qp),0,0,0,false,0,0,0,[],[]⟩:X1),e.Frame⟩:Zj) e).bind fun v19=>
 cond (!v19)
 (some 2)
 (none))
 (some 2))))
theorem Q8e {N} {e} {l} {r} (h:Q2z N e l=some r):pU 35 [.agg (Zj.cells e),.agg (Zv.cells l)] (.int .i64 r):=by
 refine Q2 k35 ?_;unfold Q2z at h;rw [cX] at h;refine ifO h (fun hc1 h=>?_) (fun hc1 h=>?_)
 ·refine ifT hc1 ?_;refine cP h Jc (.cons (Ar (f8_ (.cons (.nil _) (.cons (.p _) (.cons (.nil _) (V6 (V6 (f8_ (f4_ (f1_ (.cons (.nil _) .nil))))))))))) (.cons (Ar (V6 (V6 (V6 za)))) .nil)) fun v2 h=>?_;refine iL h fun h=>?_;refine iL h fun h=>?_;refine ifT hc1 ?_
  first | (cases h;done) | (simp [Qah] at h;done)
 apply iU h<;>intro h
 ·refine cP h Jc (.cons (Ar (f8_ (.cons (.nil _) (.cons (.p _) (.cons (.nil _) (V6 (V6 (f8_ (f4_ (f1_ (.cons (.nil _) .nil))))))))))) (.cons (Ar (V6 (V6 (V6 za)))) .nil)) fun v7 h=>?_;refine iL h fun h=>?_;refine iL h fun h=>?_;refine ifF hc1 ?_
  first | (cases h;done) | (simp [Qah] at h;done)
 apply iU h<;>intro h
 ·refine Qa ?_;refine cP h Jc (.cons (Ar (f8_ (.cons (.nil _) (V6 (f4_ (f2_ (.cons (.nil _) (f2_ (.cons (.nil _) (.cons (.nil _) (.cons (.nil _) (V6 (f2_ (f1_ (.cons (.nil _) .nil))))))))))))))) (.cons (Ar (V6 (V6 (V6 za)))) .nil)) fun v12 h=>?_;refine iL h fun h=>?_;refine iL h fun h=>?_;refine cP h Zq (.cons (Ar (f8_ za)) (.cons q2 .nil)) fun v16 h=>?_;cases h;exact (.p _)
 refine iR h fun h=>?_;refine Qa ?_;refine cD h Jc (.cons (Ar (f8_ (.cons (.nil _) (.cons (.p _) (.cons (.nil _) (V6 (f4_ (.cons (.nil _) (f2_ (.cons (.nil _) (.cons (.nil _) (.cons (.nil _) (f8_ (f4_ (f2_ (.cons (.p _) p5)))))))))))))))) (.cons (Ar (V6 (V6 (V6 za)))) .nil)) fun v19 h=>?_;refine iL h fun h=>?_
 first | (cases h;done) | (simp [Qah] at h;done)
def Q2v (N:Nat) (e:Zj) (l:Zv):Option Int:=
 (Q2b N l).bind fun v1=>
 cond (!v1)
 (some 2)
 (cond (Q6 .eql e.Kind 1)
 ((Q0r N e).bind fun v5=>
 cond (Q6 .neq v5 0)
 (some v5)
 (cond (Q6 .gtr (e.Payload.length:Int) l.MaxPacket)
 (some 4)
 (some 0)))
 (cond (Q6 .eql e.Kind 2)
 ((Q2z N e l).bind fun v10=>
 some v10)
 (some 2)))
theorem Q8i {N} {e} {l} {r} (h:Q2v N e l=some r):pU 21 [.agg (Zj.cells e),.agg (Zv.cells l)] (.int .i64 r):=by
 refine Q2 k21 ?_;unfold Q2v at h;rw [cX] at h;refine cP h Q8k (.cons q2 .nil) fun v1 h=>?_;refine iL h fun h=>?_;apply iU h<;>intro h
 ·refine cP h Q66 (.cons (Ar (V6 (V6 (V6 za)))) .nil) fun v5 h=>?_;refine iL h fun h=>?_;exact iB h
 refine iR h fun h=>?_;refine cP h Q8e (.cons (Ar (V6 (V6 (V6 za)))) (.cons q2 .nil)) fun v10 h=>?_;cases h;exact (.p _)
def Q8p (_N:Nat) (R:Reg) (c n:List UInt8):Option ((Int×Int)×Reg):=some (rID R c n,R)
theorem Q5e {N R c n r} (h:Q8p N R c n=some r):Ug Tryz.prog G1 53 R [.str c,.str n] (.tuple [.int .i64 r.1.1,.int .i64 r.1.2]) r.2:=by cases h;exact Qri
def Jt (N:Nat) (a:Xs) (name:List UInt8):Option (Int×Bool):=
 (Q03 N name).bind fun v1=>
 some (v1.1,v1.2)
theorem Q4s {N} {a} {name} {r} (h:Jt N a name=some r):pU 395 [.agg (Xs.cells a),.str name] (.tuple [.int .i64 r.1,.bool r.2]):=by
 refine Q2 Qxf ?_;unfold Jt at h;refine cP h Q32 p1 fun v1 h=>?_;obtain rfl:=Qb h;exact u2
def Ut (N:Nat) (R0:Reg) (client:List UInt8) (e:Zj):Option ((Qf×Int)×Reg):=
 cond (Q6 .neq e.Proto 3)
 (some (((⟨[],(⟨0,(⟨false,0,false,false,false,0⟩:Qp),0,0,0,false,0,0,0,[],[]⟩:X1)⟩:Qf),2),R0))
 ((Zm N).bind fun v2=>
 (Q2v N e v2).bind fun v4=>
 cond (Q6 .neq v4 0)
 (some (((⟨[],(⟨0,(⟨false,0,false,false,false,0⟩:Qp),0,0,0,false,0,0,0,[],[]⟩:X1)⟩:Qf),v4),R0))
 ((Q5o N e.Hops).bind fun v7=>
 cond (Q6 .eql e.Kind 1)
 (cond (Q6 .eql e.Type' 2)
 ((Jt N (⟨⟩:Xs) e.Topic).bind fun v30=>
 cond (!v30.2)
 (some (((⟨[],(⟨0,(⟨false,0,false,false,false,0⟩:Qp),0,0,0,false,0,0,0,[],[]⟩:X1)⟩:Qf),11),R0))
 ((Zm N).bind fun v33=>
 (Zx N (⟨v7,(⟨12,(⟨e.Dup,e.QoS,e.Retain,false,false,e.Type'⟩:Qp),0,0,0,false,v30.1,e.ID,0,[],e.Payload⟩:X1)⟩:Qf) v33).bind fun v35=>
 cond (Q6 .neq v35 0)
 (some (((⟨[],(⟨0,(⟨false,0,false,false,false,0⟩:Qp),0,0,0,false,0,0,0,[],[]⟩:X1)⟩:Qf),v35),R0))
 (some (((⟨v7,(⟨12,(⟨e.Dup,e.QoS,e.Retain,false,false,e.Type'⟩:Qp),0,0,0,false,v30.1,e.ID,0,[],e.Payload⟩:X1)⟩:Qf),0),R0))))
 (cond (Q6 .eql e.Type' 1)
 ((Q8p N R0 client e.Topic).bind fun v38=>
 cond (Q6 .neq v38.1.2 0)
 (some (((⟨[],(⟨0,(⟨false,0,false,false,false,0⟩:Qp),0,0,0,false,0,0,0,[],[]⟩:X1)⟩:Qf),11),v38.2))
 ((Q0s N v38.2 client v38.1.1).bind fun v41=>
 cond (!(v41.1 == true))
 (some (((⟨[],(⟨0,(⟨false,0,false,false,false,0⟩:Qp),0,0,0,false,0,0,0,[],[]⟩:X1)⟩:Qf),11),v41.2))
 ((Zm N).bind fun v44=>
 (Zx N (⟨v7,(⟨12,(⟨e.Dup,e.QoS,e.Retain,false,false,e.Type'⟩:Qp),0,0,0,false,v38.1.1,e.ID,0,[],e.Payload⟩:X1)⟩:Qf) v44).bind fun v46=>
 cond (Q6 .neq v46 0)
 (some (((⟨[],(⟨0,(⟨false,0,false,false,false,0⟩:Qp),0,0,0,false,0,0,0,[],[]⟩:X1)⟩:Qf),v46),v41.2))
 (some (((⟨v7,(⟨12,(⟨e.Dup,e.QoS,e.Retain,false,false,e.Type'⟩:Qp),0,0,0,false,v38.1.1,e.ID,0,[],e.Payload⟩:X1)⟩:Qf),0),v41.2)))))
 ((Q8p N R0 client e.Topic).bind fun v49=>
 cond (Q6 .neq v49.1.2 0)
 (some (((⟨[],(⟨0,(⟨false,0,false,false,false,0⟩:Qp),0,0,0,false,0,0,0,[],[]⟩:X1)⟩:Qf),11),v49.2))
 ((Q0s N v49.2 client v49.1.1).bind fun v52=>
 cond (!(v52.1 == false))
 (some (((⟨[],(⟨0,(⟨false,0,false,false,false,0⟩:Qp),0,0,0,false,0,0,0,[],[]⟩:X1)⟩:Qf),11),v52.2))
 ((Zm N).bind fun v55=>
 (Zx N (⟨v7,(⟨12,(⟨e.Dup,e.QoS,e.Retain,false,false,e.Type'⟩:Qp),0,0,0,false,v49.1.1,e.ID,0,[],e.Payload⟩:X1)⟩:Qf) v55).bind fun v57=>
 cond (Q6 .neq v57 0)
 (some (((⟨[],(⟨0,(⟨false,0,false,false,false,0⟩:Qp),0,0,0,false,0,0,0,[],[]⟩:X1)⟩:Qf),v57),v52.2))
 (some (((⟨v7,(⟨12,(⟨e.Dup,e.QoS,e.Retain,false,false,e.Type'⟩:Qp),0,0,0,false,v49.1.1,e.ID,0,[],e.Payload⟩:X1)⟩:Qf),0),v52.2)))))))
 ((Zm N).bind fun v60=>
 (Zx N (⟨v7,e.Msg⟩:Qf) v60).bind fun v62=>
 cond (Q6 .neq v62 0)
 (some (((⟨[],(⟨0,(⟨false,0,false,false,false,0⟩:Qp),0,0,0,false,0,0,0,[],[]⟩:X1)⟩:Qf),v62),R0))
 (some (((⟨v7,e.Msg⟩:Qf),0),R0)))))
theorem Gw {N} {R0} {client} {e} {r} (h:Ut N R0 client e=some r):Ug Tryz.prog G1 8 R0 [.str client,.agg (Zj.cells e)] (.tuple [.agg (Qf.cells r.1.1),.int .i64 r.1.2]) r.2:=by
 refine Q20 k8 ?_;unfold Ut at h;rw [cX] at h;apply iU h<;>intro h
 ·obtain rfl:=Qb h;exact ⟨1,rfl,(At (.cons (Ar (.cons (.nil _) (f8_ (f2_ (.cons (.p _) p5))))) p1))⟩
 refine Qa ?_;refine cD h Y5 p0 fun v2 h=>?_;refine cD h Q8i (.cons (Ar (V6 (V6 (V6 za)))) p1) fun v4 h=>?_;apply iU h<;>intro h
 ·obtain rfl:=Qb h;exact ⟨1,rfl,(At (.cons (Ar (.cons (.nil _) (f8_ (f2_ (.cons (.p _) p5))))) p1))⟩
 refine Qa ?_;refine dcO h Q3c [4] (fun v7 => .slice 2 4 0 v7.length) (rE rfl <| rN) fun v7 h=>?_;apply iU h<;>intro h
 ·refine Q8s 7 0 rfl rfl rfl rfl rfl ?_;refine Qnx h (fun hc28 h=>?_) (fun hc28 h=>?_)
  ·refine Jv (r := .iface 96 (.agg [])) rfl rfl (Q3 k20 (ifT hc28 rfl)) ?_;refine cP h Q4s (.cons (Ar .nil) p1) fun v30 h=>?_;apply iU h<;>intro h
   ·obtain rfl:=Qb h;exact ⟨1,rfl,(At (.cons (Ar (.cons (.nil _) (f8_ (f2_ (.cons (.p _) p5))))) p1))⟩
   refine Qa ?_;refine cD h Y5 p0 fun v33 h=>?_;refine dL h Zq [4] (.cons (Ar (.cons (frz_own (c:=V5.cells) (l:=(v7:List V5)) (fun _=>rfl) rfl (by simp) sd) (f8_ (f2_ (.cons (.p _) p5))))) p1) fun v35 h=>?_;apply iU h<;>intro h
   ·obtain rfl:=Qb h;exact ⟨1,rfl,(At (.cons (Ar (.cons (.nil _) (f8_ (f2_ (.cons (.p _) p5))))) p1))⟩
   obtain rfl:=Qb h;exact ⟨1,rfl,(At (.cons (Ar (.cons (frz_own (c:=V5.cells) (l:=(v7:List V5)) (fun _=>rfl) rfl (by decide) sd) (f8_ (f2_ (.cons (.p _) p5))))) p1))⟩
  refine Qnx h (fun hc29 h=>?_) (fun hc29 h=>?_)
  ·refine Jv (r := .iface 98 (.agg [.ptr 0 0,iS client])) rfl rfl (Q3 k20 (ifF hc28 (ifT hc29 rfl))) ?_;refine Q3 Qwd ?_;refine Q3 Qu8 ?_;refine cRg h Q5e (b:=1) rfl p2 fun v38 h=>?_;apply iU h<;>intro h
   ·obtain rfl:=Qb h;exact ⟨8,rfl,(At (.cons (Ar (.cons (.nil _) (f8_ (f2_ (.cons (.p _) p5))))) p1))⟩
   refine cRg h G4 (b:=8) rfl p2 fun v41 h=>?_;apply iU h<;>intro h
   ·obtain rfl:=Qb h;exact ⟨9,rfl,(At (.cons (Ar (.cons (.nil _) (f8_ (f2_ (.cons (.p _) p5))))) p1))⟩
   refine Qa ?_;refine cD h Y5 p0 fun v44 h=>?_;refine dL h Zq [4] (.cons (Ar (.cons (frz_own (c:=V5.cells) (l:=(v7:List V5)) (fun _=>rfl) rfl (by simp) sd) (f8_ (f2_ (.cons (.p _) p5))))) p1) fun v46 h=>?_;apply iU h<;>intro h
   ·obtain rfl:=Qb h;exact ⟨9,rfl,(At (.cons (Ar (.cons (.nil _) (f8_ (f2_ (.cons (.p _) p5))))) p1))⟩
   obtain rfl:=Qb h;exact ⟨9,rfl,(At (.cons (Ar (.cons (frz_own (c:=V5.cells) (l:=(v7:List V5)) (fun _=>rfl) rfl (by decide) sd) (f8_ (f2_ (.cons (.p _) p5))))) p1))⟩
  refine Jv (r := .iface 99 (.agg [.ptr 0 0,iS client])) rfl rfl (Q3 k20 (ifF hc28 (ifF hc29 rfl))) ?_;refine Q3 Z2i ?_;refine Q3 Qu8 ?_;refine cRg h Q5e (b:=1) rfl p2 fun v49 h=>?_;apply iU h<;>intro h
  ·obtain rfl:=Qb h;exact ⟨8,rfl,(At (.cons (Ar (.cons (.nil _) (f8_ (f2_ (.cons (.p _) p5))))) p1))⟩
  refine cRg h G4 (b:=8) rfl p2 fun v52 h=>?_;apply iU h<;>intro h
  ·obtain rfl:=Qb h;exact ⟨9,rfl,(At (.cons (Ar (.cons (.nil _) (f8_ (f2_ (.cons (.p _) p5))))) p1))⟩
  refine Qa ?_;refine cD h Y5 p0 fun v55 h=>?_;refine dL h Zq [4] (.cons (Ar (.cons (frz_own (c:=V5.cells) (l:=(v7:List V5)) (fun _=>rfl) rfl (by simp) sd) (f8_ (f2_ (.cons (.p _) p5))))) p1) fun v57 h=>?_;apply iU h<;>intro h
  ·obtain rfl:=Qb h;exact ⟨9,rfl,(At (.cons (Ar (.cons (.nil _) (f8_ (f2_ (.cons (.p _) p5))))) p1))⟩
  obtain rfl:=Qb h;exact ⟨9,rfl,(At (.cons (Ar (.cons (frz_own (c:=V5.cells) (l:=(v7:List V5)) (fun _=>rfl) rfl (by decide) sd) (f8_ (f2_ (.cons (.p _) p5))))) p1))⟩
 refine Qa ?_;refine cD h Y5 p0 fun v60 h=>?_;refine dL h Zq [4] (.cons (Ar (.cons (frz_own (c:=V5.cells) (l:=(v7:List V5)) (fun _=>rfl) rfl (by simp) sd) (f8_ (f2_ (.cons (.p _) p5))))) p1) fun v62 h=>?_;apply iU h<;>intro h
 ·obtain rfl:=Qb h;exact ⟨1,rfl,(At (.cons (Ar (.cons (.nil _) (f8_ (f2_ (.cons (.p _) p5))))) p1))⟩
 obtain rfl:=Qb h;exact ⟨1,rfl,(At (.cons (Ar (.cons (frz_own (c:=V5.cells) (l:=(v7:List V5)) (fun _=>rfl) rfl (by decide) sd) (f8_ (f2_ (.cons (.p _) p5))))) p1))⟩
def Q1j (_N:Nat) (l:Zv):Option Bool:=
 cond (Q6 .geq l.MaxPacket 16)
 (cond (Q6 .leq l.MaxPacket 1048576)
 (cond (Q6 .geq l.MaxDepth 0)
 (some (Q6 .leq l.MaxDepth 32))
 (some false))
 (some false))
 (some false)
theorem Q79 {N} {l} {r} (h:Q1j N l=some r):pU 22 [.agg (Zv.cells l)] (.bool r):=by
 refine Q2 k22 ?_;unfold Q1j at h;rw [cX] at h;refine iR h fun h=>?_;refine iR h fun h=>?_;exact iB h
def Q1c (N:Nat) (R0:Reg) (client:List UInt8) (e:Zj) (l:Zv):Option (((List UInt8)×Int)×Reg):=
 (Q1j N l).bind fun v1=>
 cond (!v1)
 (some (([],2),R0))
 ((Ut N R0 client e).bind fun v4=>
 cond (Q6 .neq v4.1.2 0)
 (some (([],v4.1.2),v4.2))
 ((G8 N v4.1.1 l).bind fun v7=>
 some ((v7.1,v7.2),v4.2)))
theorem Q7l {N} {R0} {client} {e} {l} {r} (h:Q1c N R0 client e l=some r):Ug Tryz.prog G1 9 R0 [.str client,.agg (Zj.cells e),.agg (Zv.cells l)] (.tuple [.str r.1.1,.int .i64 r.1.2]) r.2:=by
 refine Q20 k9 ?_;unfold Q1c at h;rw [cX] at h;refine cP h Q79 (.cons q2 .nil) fun v1 h=>?_;apply iU h<;>intro h
 ·obtain rfl:=Qb h;exact ⟨1,rfl,u2⟩
 refine cRg h Gw (b:=1) rfl (.cons (.p _) (.cons (Ar (V6 (V6 (V6 za)))) .nil)) fun v4 h=>?_;apply iU h<;>intro h
 ·obtain rfl:=Qb h;exact ⟨4,rfl,u2⟩
 refine cP h Q1q (.cons (Ar (f8_ za)) (.cons q2 .nil)) fun v7 h=>?_;obtain rfl:=Qb h;exact ⟨4,rfl,u2⟩
def Vv (_N:Nat):Option (Zv):=
 some (⟨4096,6⟩:Zv)
theorem Q2w {N} {r} (h:Vv N=some r):pU 10 [] (.agg (Zv.cells r)):=by
 refine Q2 k10 ?_;unfold Vv at h;obtain rfl:=Qb h;exact q2
def Q98 (_N:Nat) (R:Reg) (c:List UInt8):Option (Int×Reg):=Tp.rClear R c
theorem Qb8 {N R c r} (h:Q98 N R c=some r):Ug Tryz.prog G1 25 R [.str c] (.int .i64 r.1) r.2:=Tp.clear_ctr h
def Qtf (t:Int×List UInt8×Bool):Q3m:=⟨t.1,t.2.1,t.2.2⟩
def Q3w (_N:Nat) (R:Reg) (c:List UInt8):Option (List Q3m×Reg):=cond (Tp.okAll R c) (some ((Tp.rTopics R c).map Qtf,R)) none
theorem Q9c {N R c r} (h:Q3w N R c=some r):Ug Tryz.prog G1 51 R [.str c] (.slice 3 (Qg Q3m.cells r.1)) r.2:=by
 unfold Q3w at h
 cases hk:Tp.okAll R c with
 | false=>rw [hk] at h;cases h
 | true=>
  rw [hk] at h;cases h
  have e:Qg Q3m.cells ((Tp.rTopics R c).map Qtf)=Qg Tp.topC (Tp.rTopics R c):=by unfold Qg;rw [Nd];rfl
  show Ug _ _ _ _ _ (.slice 3 (Qg Q3m.cells ((Tp.rTopics R c).map Qtf))) _;rw [e];exact Tp.topics_reg hk
def W5 (N:Nat) (client:List UInt8) (m:X1) (v5:(List Q3m)×Reg):Nat->Int->Int->Option ((Int)×Reg)
 | 0,_,_=>none
 | n+1,least17,s18=>
  cond (Q6 .lss s18 ((Qg Q3m.cells v5.1).length:Int))
  ((idx v5.1 s18).bind fun y20=>
  cond (Q6 .neq y20.ID least17)
  (cond (Q6 .neq m.TopicID least17)
  (some (2,v5.2))
  ((G2 N v5.2 client m.Name).bind fun v24=>
  some (v24.1.2.2,v24.2)))
  (W5 N client m v5 n (wrap .i64 (least17+1)) (wrap .i64 (s18+1))))
  (cond (Q6 .neq m.TopicID least17)
  (some (2,v5.2))
  ((G2 N v5.2 client m.Name).bind fun v27=>
  some (v27.1.2.2,v27.2)))
def G5 (N:Nat) (R0:Reg) (client:List UInt8) (m:X1):Option ((Int)×Reg):=
 (Q8p N R0 client m.Name).bind fun v1=>
 cond (Q6 .eql v1.1.2 0)
 (cond (Q6 .neq v1.1.1 m.TopicID)
 (some (2,v1.2))
 (some (0,v1.2)))
 ((Q3w N v1.2 client).bind fun v5=>
 W5 N client m v5 N 1 0)
theorem Q1z {N} {R0} {client} {m} {r} (h:G5 N R0 client m=some r):Ug Tryz.prog G1 26 R0 [.str client,.agg (X1.cells m)] (.int .i64 r.1) r.2:=by
 refine Q20 k26 ?_;unfold G5 at h;rw [cX] at h;refine cRg h Q5e (b:=1) rfl p2 fun v1 h=>?_;apply iU h<;>intro h
 ·apply iU h<;>intro h
  ·obtain rfl:=Qb h;exact ⟨3,rfl,(.p _)⟩
  obtain rfl:=Qb h;exact ⟨3,rfl,(.p _)⟩
 refine cRg h Q9c (b:=3) rfl p1 fun v5 h=>?_;refine lpH (τ:=Int×Int) (fun ⟨least17,s18⟩=>(.ptr 0 0::iS client::a2 (.any :: .ptr 2 0::a2 (.any::iI least17::a16 (a4 (.any :: .p (.slice 3 (Qg Q3m.cells v5.1))::iI ((Qg Q3m.cells v5.1).length:Int)::iI s18::a16 (a8 ([])))))):List AV)) (fun n0 ⟨least17,s18⟩=>W5 N client m v5 n0 least17 s18) (1,0) h fun n0 ⟨least17,s18⟩ h=>?_
 first | rw [W5] at h | simp only [W5] at h
 rw [cX] at h;apply iU h<;>intro h
 ·refine xR h fun y20 h=>?_;apply iU h<;>intro h
  ·apply iU h<;>intro h
   ·obtain rfl:=Qb h;exact ⟨4,rfl,(.p _)⟩
   refine cRg h Jn (b:=4) rfl p2 fun v24 h=>?_;obtain rfl:=Qb h;exact ⟨6,rfl,(.p _)⟩
  show Exists _;exact ⟨(n0,(wrap .i64 (least17+1)),(wrap .i64 (s18+1))),h,Ll _,(fun i=>i),Z2⟩
 apply iU h<;>intro h
 ·obtain rfl:=Qb h;exact ⟨4,rfl,(.p _)⟩
 refine cRg h Jn (b:=4) rfl p2 fun v27 h=>?_;obtain rfl:=Qb h;exact ⟨5,rfl,(.p _)⟩
def Yy (N:Nat) (R0:Reg) (client:List UInt8) (m:X1):Option ((Int)×Reg):=
 (Q05 N m).bind fun v1=>
 cond (Q6 .neq v1 0)
 (some (v1,R0))
 (cond (Q6 .eql m.Type' 4)
 (cond m.Flags.Clean
 ((Q98 N R0 client).bind fun v6=>
 some (0,v6.2))
 (cond (Q6 .eql m.Type' 10)
 ((G5 N R0 client m).bind fun v9=>
 some (v9.1,v9.2))
 (some (0,R0))))
 (cond (Q6 .eql m.Type' 10)
 ((G5 N R0 client m).bind fun v12=>
 some (v12.1,v12.2))
 (some (0,R0))))
theorem Yz {N} {R0} {client} {m} {r} (h:Yy N R0 client m=some r):Ug Tryz.prog G1 11 R0 [.str client,.agg (X1.cells m)] (.int .i64 r.1) r.2:=by
 refine Q20 k11 ?_;unfold Yy at h;rw [cX] at h;refine cP h Q33 (.cons (Ar (f8_ (f2_ (.cons (.p _) p5)))) .nil) fun v1 h=>?_;apply iU h<;>intro h
 ·obtain rfl:=Qb h;exact ⟨1,rfl,(.p _)⟩
 apply iU h<;>intro h
 ·apply iU h<;>intro h
  ·refine cRg h Qb8 (b:=1) rfl p1 fun v6 h=>?_;obtain rfl:=Qb h;exact ⟨3,rfl,(.p _)⟩
  apply iU h<;>intro h
  ·refine cRg h Q1z (b:=1) rfl (.cons (.p _) (.cons (Ar (f8_ (f2_ (.cons (.p _) p5)))) .nil)) fun v9 h=>?_;obtain rfl:=Qb h;exact ⟨3,rfl,(.p _)⟩
  obtain rfl:=Qb h;exact ⟨1,rfl,(.p _)⟩
 apply iU h<;>intro h
 ·refine cRg h Q1z (b:=1) rfl (.cons (.p _) (.cons (Ar (f8_ (f2_ (.cons (.p _) p5)))) .nil)) fun v12 h=>?_;obtain rfl:=Qb h;exact ⟨3,rfl,(.p _)⟩
 obtain rfl:=Qb h;exact ⟨1,rfl,(.p _)⟩
def Z6 (N:Nat) (a:Qf) (b:Qf):Nat->Int->Option Bool
 | 0,_=>none
 | n+1,i17=>
  cond (Q6 .lss i17 ((Qg V5.cells a.Hops).length:Int))
  ((idx a.Hops i17).bind fun y19=>
  (idx b.Hops i17).bind fun y21=>
  cond (!(((y19.Radius:Int) == y21.Radius)&&(((y19.Node:List UInt8) == y21.Node)&&true)))
  (some false)
  (Z6 N a b n (wrap .i64 (i17+1))))
  (some true)
def Xh (N:Nat) (a:Qf) (b:Qf):Option Bool:=
 cond (!(((a.Msg.Type':Int) == b.Msg.Type')&&(((a.Msg.Flags.Dup:Bool) == b.Msg.Flags.Dup)&&(((a.Msg.Flags.QoS:Int) == b.Msg.Flags.QoS)&&(((a.Msg.Flags.Retain:Bool) == b.Msg.Flags.Retain)&&(((a.Msg.Flags.Will:Bool) == b.Msg.Flags.Will)&&(((a.Msg.Flags.Clean:Bool) == b.Msg.Flags.Clean)&&(((a.Msg.Flags.Type':Int) == b.Msg.Flags.Type')&&(((a.Msg.Gateway:Int) == b.Msg.Gateway)&&(((a.Msg.Radius:Int) == b.Msg.Radius)&&(((a.Msg.Time:Int) == b.Msg.Time)&&(((a.Msg.Timed:Bool) == b.Msg.Timed)&&(((a.Msg.TopicID:Int) == b.Msg.TopicID)&&(((a.Msg.MsgID:Int) == b.Msg.MsgID)&&(((a.Msg.Code:Int) == b.Msg.Code)&&(((a.Msg.Name:List UInt8) == b.Msg.Name)&&(((a.Msg.Data:List UInt8) == b.Msg.Data)&&true)))))))))))))))))
 (some false)
 (cond (Q6 .neq ((Qg V5.cells a.Hops).length:Int) ((Qg V5.cells b.Hops).length:Int))
 (some false)
 (Z6 N a b N 0))
theorem Gm {N} {a} {b} {r} (h:Xh N a b=some r):pU 12 [.agg (Qf.cells a),.agg (Qf.cells b)] (.bool r):=by
 refine Q2 k12 ?_;unfold Xh at h;rw [cX] at h;refine iL h fun h=>?_;refine iL h fun h=>?_;refine lpH (τ:=Int) (fun i17=>(.any :: .any :: .ptr 0 0 :: .ptr 1 0 :: .any::iI i17::a16 (a16 ([])):List AV)) (fun n0 i17=>Z6 N a b n0 i17) (0) h fun n0 i17 h=>?_
 first | rw [Z6] at h | simp only [Z6] at h
 rw [cX] at h;refine iR h fun h=>?_;refine Qa ?_;refine xR h fun y19 h=>?_;refine xR h fun y21 h=>?_;refine iL h fun h=>?_;show Exists _;exact ⟨(n0,(wrap .i64 (i17+1))),h,Ll _,(fun i=>i),Z2⟩
def Z33 (R:Reg) (c:List UInt8):Int:=match Ya c 0 R with | none=>0 | some q=>(q.2.all.length:Int)
def Qfk (_N:Nat) (R:Reg) (c:List UInt8):Option (Int×Reg):=some (Z33 R c,R)
theorem Qen {N R c r} (h:Qfk N R c=some r):Ug Tryz.prog G1 13 R [.str c] (.int .i64 r.1) r.2:=by
 cases h;unfold Z33
 cases h:Ya c 0 R with
 | none=>exact Qmi h
 | some q=>obtain ⟨i,C⟩:=q;exact Qpl h
def X2 (N:Nat):Option Bool:=
 (Gk N).bind fun v1=>
 cond (!v1)
 (some false)
 ((G2 N [] [99] [97,47,98]).bind fun v4=>
 (Q3z N v4.2 [99] [112] 9).bind fun v6=>
 (Zf N).bind fun v8=>
 (Ud N v6.2 [99] v8).bind fun v10=>
 (Ut N v10.2 [99] v10.1.1).bind fun v12=>
 (Zf N).bind fun v14=>
 (Ud N v12.2 [99] (⟨v14.Hops,(⟨v14.Msg.Type',(⟨v14.Msg.Flags.Dup,v14.Msg.Flags.QoS,v14.Msg.Flags.Retain,v14.Msg.Flags.Will,v14.Msg.Flags.Clean,1⟩:Qp),v14.Msg.Gateway,v14.Msg.Radius,v14.Msg.Time,v14.Msg.Timed,v14.Msg.TopicID,v14.Msg.MsgID,v14.Msg.Code,v14.Msg.Name,v14.Msg.Data⟩:X1)⟩:Qf)).bind fun v16=>
 (Ud N v16.2 [99] (⟨v14.Hops,(⟨v14.Msg.Type',(⟨v14.Msg.Flags.Dup,v14.Msg.Flags.QoS,v14.Msg.Flags.Retain,v14.Msg.Flags.Will,v14.Msg.Flags.Clean,1⟩:Qp),v14.Msg.Gateway,v14.Msg.Radius,v14.Msg.Time,v14.Msg.Timed,9,v14.Msg.MsgID,v14.Msg.Code,v14.Msg.Name,v14.Msg.Data⟩:X1)⟩:Qf)).bind fun v18=>
 (Zf N).bind fun v20=>
 (Ud N v18.2 [100] v20).bind fun v22=>
 (Zf N).bind fun v24=>
 (Zf N).bind fun v26=>
 (Ud N v22.2 [100] (⟨v26.Hops,(⟨v26.Msg.Type',(⟨v26.Msg.Flags.Dup,v26.Msg.Flags.QoS,v26.Msg.Flags.Retain,v26.Msg.Flags.Will,v26.Msg.Flags.Clean,2⟩:Qp),v26.Msg.Gateway,v26.Msg.Radius,v26.Msg.Time,v26.Msg.Timed,30841,v26.Msg.MsgID,v26.Msg.Code,v26.Msg.Name,v26.Msg.Data⟩:X1)⟩:Qf)).bind fun v28=>
 (Ut N v28.2 [100] v10.1.1).bind fun v30=>
 (Vv N).bind fun v34=>
 (Q1c N v30.2 [99] v10.1.1 v34).bind fun v36=>
 (Yy N v36.2 [99] (⟨10,(⟨false,0,false,false,false,0⟩:Qp),0,0,0,false,2,1,0,[113],[]⟩:X1)).bind fun v38=>
 (Yy N v38.2 [99] (⟨10,(⟨false,0,false,false,false,0⟩:Qp),0,0,0,false,2,1,0,[113],[]⟩:X1)).bind fun v40=>
 (Yy N v40.2 [99] (⟨10,(⟨false,0,false,false,false,0⟩:Qp),0,0,0,false,3,1,0,[113],[]⟩:X1)).bind fun v42=>
 (Yy N v42.2 [99] (⟨10,(⟨false,0,false,false,false,0⟩:Qp),0,0,0,false,9,1,0,[119],[]⟩:X1)).bind fun v44=>
 (Yy N v44.2 [99] (⟨4,(⟨false,0,false,false,true,0⟩:Qp),0,0,0,false,0,0,0,[99],[]⟩:X1)).bind fun v46=>
 cond (Q6 .eql v12.1.2 0)
 ((Zf N).bind fun v69=>
 (Xh N v12.1.1 v69).bind fun v71=>
 cond v71
 (cond (Q6 .eql v16.1.2 11)
 (cond (Q6 .eql v18.1.2 0)
 (cond (Q31 .eql v18.1.1.Topic [112])
 (cond (Q6 .eql v22.1.2 11)
 (cond (Q6 .eql v28.1.2 0)
 (cond (Q31 .eql v28.1.1.Topic [120,121])
 (cond (Q6 .eql v30.1.2 11)
 (cond (Q6 .eql v36.1.2 0)
 (cond (Q31 .eql v36.1.1 [9,12,0,0,1,0,0,104,105])
 (cond (Q6 .eql v38.1 0)
 (cond (Q6 .eql v40.1 0)
 (cond (Q6 .eql v42.1 2)
 (cond (Q6 .eql v44.1 2)
 (cond (Q6 .eql v46.1 0)
 ((Qfk N v46.2 [99]).bind fun v88=>
 cond (Q6 .eql v88.1 1)
 ((Yy N v88.2 [99] (⟨3,(⟨false,0,false,false,false,0⟩:Qp),0,0,0,false,0,0,0,[],[]⟩:X1)).bind fun v91=>
 some (Q6 .eql v91.1 8))
 (some false))
 (some false))
 (some false))
 (some false))
 (some false))
 (some false))
 (some false))
 (some false))
 (some false))
 (some false))
 (some false))
 (some false))
 (some false))
 (some false))
 (some false))
 (some false))
 (some false))
theorem Gj {N} {r} (h:X2 N=some r):pU 3 [] (.bool r):=by
 refine Q2 k3 ?_;unfold X2 at h;rw [cX,cY] at h;refine cP h Q26 p0 fun v1 h=>?_;refine iL h fun h=>?_;refine Q3 k5 ?_;refine Qnz Qpe 0 rfl ?_;refine cRg h Jn (b:=1) rfl p2 fun v4 h=>?_;refine cRg h Q6b (b:=2) rfl p3 fun v6 h=>?_;refine cP h Zp p0 fun v8 h=>?_;refine cRg h U4 (b:=3) rfl p2 fun v10 h=>?_;refine cRg h Gw (b:=4) rfl (.cons (.p _) (.cons (Ar (V6 (V6 (V6 za)))) .nil)) fun v12 h=>?_;refine cP h Zp p0 fun v14 h=>?_;refine cRg h U4 (b:=6) rfl (.cons (.p _) (.cons (Ar (f8_ za)) .nil)) fun v16 h=>?_;refine cRg h U4 (b:=9) rfl (.cons (.p _) (.cons (Ar (f8_ za)) .nil)) fun v18 h=>?_;refine cP h Zp p0 fun v20 h=>?_;refine cRg h U4 (b:=11) rfl p2 fun v22 h=>?_;refine cP h Zp p0 fun v24 h=>?_;refine Q3 k6 ?_;refine cP h Zp p0 fun v26 h=>?_;refine cRg h U4 (b:=13) rfl (.cons (.p _) (.cons (Ar (f8_ za)) .nil)) fun v28 h=>?_;refine cRg h Gw (b:=19) rfl (.cons (.p _) (.cons (Ar (V6 (V6 (V6 za)))) .nil)) fun v30 h=>?_;refine Q8s 3 0 rfl rfl rfl rfl rfl ?_;refine cD h Q2w p0 fun v34 h=>?_;refine cRg h Q7l (b:=21) rfl (.cons (.p _) (.cons (Ar (V6 (V6 (V6 za)))) p1)) fun v36 h=>?_;refine cRg h Yz (b:=23) rfl (.cons (.p _) (.cons (Ar (f8_ (f2_ (.cons (.p _) p5)))) .nil)) fun v38 h=>?_;refine cRg h Yz (b:=25) rfl (.cons (.p _) (.cons (Ar (f8_ (f2_ (.cons (.p _) p5)))) .nil)) fun v40 h=>?_;refine cRg h Yz (b:=26) rfl (.cons (.p _) (.cons (Ar (f8_ (f2_ (.cons (.p _) p5)))) .nil)) fun v42 h=>?_;refine cRg h Yz (b:=27) rfl (.cons (.p _) (.cons (Ar (f8_ (f2_ (.cons (.p _) p5)))) .nil)) fun v44 h=>?_;refine cRg h Yz (b:=28) rfl (.cons (.p _) (.cons (Ar (f8_ (f2_ (.cons (.p _) p5)))) .nil)) fun v46 h=>?_;refine Qjj 71 75 rfl rfl rfl rfl rfl rfl rfl ?_;refine iR h fun h=>?_;refine cD h Zp p0 fun v69 h=>?_;refine cD h Gm (.cons (Ar (f8_ za)) p1) fun v71 h=>?_;refine iR h fun h=>?_;refine iR h fun h=>?_;refine iR h fun h=>?_;refine iR h fun h=>?_;refine iR h fun h=>?_;refine dT ?_;refine iR h fun h=>?_;refine iR h fun h=>?_;refine iR h fun h=>?_;refine iR h fun h=>?_;refine iR h fun h=>?_;refine iR h fun h=>?_;refine iR h fun h=>?_;refine iR h fun h=>?_;refine iR h fun h=>?_;refine iR h fun h=>?_;refine cRg h Qen (b:=29) rfl p1 fun v88 h=>?_;refine iR h fun h=>?_;refine cRg h Yz (b:=30) rfl (.cons (.p _) (.cons (Ar (f8_ (f2_ (.cons (.p _) p5)))) .nil)) fun v91 h=>?_;cases h;exact (.p _)
end
end
end Go.Av
