/- Part of the proof of CrossKeeps: for every input the law returns true; no condition. -/
import Derived.Test.YtaokaobiihpkbaaGreatDoorLiftF0
set_option linter.all false
open Go.IntKind (wrap)
namespace Go.Av
noncomputable section
open Go.Proofs
set_option maxRecDepth 100000
set_option maxHeartbeats 4000000
attribute [local irreducible] Xu Qw Q8g Q7d Qru Qrc Qi6
section
def Q19 (N:Nat) (name:List UInt8):Option (Int×Bool):=
 cond (Q4 .neq (name.length:Int) 2)
 (some (0,false))
 ((X4 N name).bind fun v2=>
 cond (!v2)
 (some (0,false))
 ((Q0x N name).bind fun v5=>
 some ((wrap .i64 v5),true)))
theorem Q6p {N} {name} {r} (h:Q19 N name=some r):pU 97 [.str name] (.tuple [.int .i64 r.1,.bool r.2]):=by
 refine Q2 k97 ?_;unfold Q19 at h;rw [cX] at h;refine iL2 h fun h=>?_;refine cP h Xy p1 fun v2 h=>?_;refine iL2 h fun h=>?_;refine cP h Q2i p1 fun v5 h=>?_;obtain rfl:=Qn h;exact u2
def Q0f (N:Nat) (a:Q1r) (name:List UInt8):Option (Int×Bool):=
 (Q19 N name).bind fun v1=>
 some (v1.1,v1.2)
theorem Q8i {N} {a} {name} {r} (h:Q0f N a name=some r):pU 465 [.agg (Q1r.cells a),.str name] (.tuple [.int .i64 r.1,.bool r.2]):=by
 refine Q2 Z9y ?_;unfold Q0f at h;refine cP h Q6p p1 fun v1 h=>?_;obtain rfl:=Qn h;exact u2
def Q3c (_N:Nat) (l:Xm):Option Bool:=
 cond (Q4 .geq l.MaxPacket 16)
 (cond (Q4 .leq l.MaxPacket 1048576)
 (cond (Q4 .geq l.MaxDepth 0)
 (some (Q4 .leq l.MaxDepth 32))
 (some false))
 (some false))
 (some false)
theorem Qc6 {N} {l} {r} (h:Q3c N l=some r):pU 116 [.agg (Xm.cells l)] (.bool r):=by
 refine Q2 Zab ?_;unfold Q3c at h;rw [cX] at h;refine iR h fun h=>?_;refine iR h fun h=>?_;exact iB h
def Wh (rz:Q0→Q0→Option Bool) (N:Nat) (a:Q0) (b:Q0):Nat→Int→Option Bool
 | 0,_=>none
 | n+1,s22=>
  cond (Q4 .lss s22 ((Q0.rows a.Items).length:Int))
  ((idx a.Items s22).bind fun y24=>
  (idx b.Items s22).bind fun y26=>
  (rz y24 y26).bind fun v28=>
  cond (!v28)
  (some false)
  (Wh rz N a b n (wrap .i64 (s22+1))))
  (some true)
def Q1w (rz:Q0→Q0→Option Bool) (N:Nat) (a:Q0) (b:Q0):Option Bool:=
 cond (Q4 .neq a.Kind b.Kind)
 (some false)
 (cond (Q4 .neq a.N' b.N')
 (some false)
 (cond (G9 .neq a.Text b.Text)
 (some false)
 (cond (Q4 .neq ((Q0.rows a.Items).length:Int) ((Q0.rows b.Items).length:Int))
 (some false)
 (Wh rz N a b N 0))))
theorem Q9y {rz:Q0→Q0→Option Bool} (hy1:∀ {a} {b} {r},rz a b=some r→pU 125 [.agg (Q0.cells a),.agg (Q0.cells b)] (.bool r)) {N} {a} {b} {r} (h:Q1w rz N a b=some r):pU 125 [.agg (Q0.cells a),.agg (Q0.cells b)] (.bool r):=by
 refine Q2 Z7r ?_;unfold Q1w at h;rw [cX,cY] at h;refine iL h fun h=>?_;refine iL h fun h=>?_;refine iL h fun h=>?_;refine iL h fun h=>?_;refine lpH (τ:=Int) (fun s22=>(.any :: .any :: .ptr 0 0 :: .ptr 1 0::a16 (a16 (iI ((Q0.rows a.Items).length:Int)::iI s22::a8 (a4 (a2 (.any :: []))))):List AV)) (fun n0 s22=>Wh rz N a b n0 s22) (0) h fun n0 s22 h=>?_
 first | rw [Wh] at h | simp only [Wh] at h
 rw [cX] at h;refine iR h fun h=>?_;refine Qp ?_;refine Q0.xR h fun y24 h=>?_;refine Q0.xR h fun y26 h=>?_;refine cD h hy1 (.cons q4 (.cons q4 .nil)) fun v28 h=>?_;refine iL h fun h=>?_;show Exists _;exact ⟨(n0,(wrap .i64 (s22+1))),h,Lf _,(fun i=>i),Ya⟩
def Ud:Nat→Q0→Q0→Option Bool
 | 0=>fun _ _=>none
 | N+1=>Q1w (Ud N) N
theorem Q9l {N} {a} {b} {r} (h:Ud N a b=some r):pU 125 [.agg (Q0.cells a),.agg (Q0.cells b)] (.bool r):=by
 induction N generalizing a b r with
 | zero=>simp [Ud] at h
 | succ N ih=>exact Q9y (fun h=>ih h) h
def Xa (N:Nat) (a:Zn) (b:Zn):Nat→Int→Option Bool
 | 0,_=>none
 | n+1,s22=>
  cond (Q4 .lss s22 ((Q0.rows a.Values).length:Int))
  ((idx a.Values s22).bind fun y24=>
  (idx b.Values s22).bind fun y26=>
  (Ud N y24 y26).bind fun v28=>
  cond (!v28)
  (some false)
  (Xa N a b n (wrap .i64 (s22+1))))
  (some true)
def Q00 (N:Nat) (a:Zn) (b:Zn):Option Bool:=
 cond (Q4 .neq a.Type' b.Type')
 (some false)
 (cond (Q4 .neq a.Channel b.Channel)
 (some false)
 (cond (G9 .neq a.Ext b.Ext)
 (some false)
 (cond (Q4 .neq ((Q0.rows a.Values).length:Int) ((Q0.rows b.Values).length:Int))
 (some false)
 (Xa N a b N 0))))
theorem Q9m {N} {a} {b} {r} (h:Q00 N a b=some r):pU 100 [.agg (Zn.cells a),.agg (Zn.cells b)] (.bool r):=by
 refine Q2 Z7t ?_;unfold Q00 at h;rw [cX,cY] at h;refine iL h fun h=>?_;refine iL h fun h=>?_;refine iL h fun h=>?_;refine iL h fun h=>?_;refine lpH (τ:=Int) (fun s22=>(a2 (.any :: .ptr 1 0::a16 (a16 (.p (.slice 4 (Q0.rows a.Values))::iI ((Q0.rows a.Values).length:Int)::iI s22::a8 (a4 (.any :: []))))):List AV)) (fun n0 s22=>Xa N a b n0 s22) (0) h fun n0 s22 h=>?_
 first | rw [Xa] at h | simp only [Xa] at h
 rw [cX] at h;refine iR h fun h=>?_;refine Q0.xR h fun y24 h=>?_;refine Qp ?_;refine Q0.xR h fun y26 h=>?_;refine cD h Q9l (.cons q4 (.cons q4 .nil)) fun v28 h=>?_;refine iL h fun h=>?_;show Exists _;exact ⟨(n0,(wrap .i64 (s22+1))),h,Lf _,(fun i=>i),Ya⟩
def Q4f (_N:Nat) (p:Qu):Option (Q52):=
 some (⟨p.Kind,p.QoS,p.ID,p.KeepAlive,p.Code,p.Dup,p.Retain,p.Clean,p.HasUser,p.HasPass,p.HasWill,p.Session,p.Topic,p.Payload,p.Client,p.User,p.Pass⟩:Q52)
theorem Q76 {N} {p} {r} (h:Q4f N p=some r):pU 120 [.agg (Qu.cells p)] (.agg (Q52.cells r)):=by
 refine Q2 Z6d ?_;unfold Q4f at h;obtain rfl:=Qn h;exact (Ar (f8_ (f2_ (f1_ (.cons (.p _) p5)))))
def Gx (_N:Nat) (a:Qk) (b:Qk):Option Bool:=
 some (((a.ID:Int) == b.ID)&&(((a.N':Int) == b.N')&&(((a.Text:List UInt8) == b.Text)&&(((a.Value:List UInt8) == b.Value)&&true))))
theorem Q5c {N} {a} {b} {r} (h:Gx N a b=some r):pU 164 [.agg (Qk.cells a),.agg (Qk.cells b)] (.bool r):=by
 refine Q2 Zdw ?_;unfold Gx at h;cases h;exact (.p _)
def Xp (N:Nat) (a:List Qk) (b:List Qk):Nat→Int→Option Bool
 | 0,_=>none
 | n+1,s19=>
  cond (Q4 .lss s19 ((Q8 Qk.cells a).length:Int))
  ((idx a s19).bind fun y21=>
  (idx b s19).bind fun y23=>
  (Gx N y21 y23).bind fun v25=>
  cond (!v25)
  (some false)
  (Xp N a b n (wrap .i64 (s19+1))))
  (some true)
def Wp (N:Nat) (a:List Qk) (b:List Qk):Option Bool:=
 cond (Q4 .neq ((Q8 Qk.cells a).length:Int) ((Q8 Qk.cells b).length:Int))
 (some false)
 (Xp N a b N 0)
theorem Q1u {N} {a} {b} {r} (h:Wp N a b=some r):pU 124 [.slice 4 (Q8 Qk.cells a),.slice 4 (Q8 Qk.cells b)] (.bool r):=by
 refine Q2 Zcn ?_;unfold Wp at h;rw [cX] at h;refine Qa Z3g ?_;refine iL h fun h=>?_;refine lpH (τ:=Int) (fun s19=>(.any :: .p (.slice 4 (Q8 Qk.cells b)) :: .p (.func (.func 164) [] [])::a8 (a4 (.p (.slice 4 (Q8 Qk.cells a))::iI ((Q8 Qk.cells a).length:Int)::iI s19::a8 (a4 (a2 ([]))))):List AV)) (fun n0 s19=>Xp N a b n0 s19) (0) h fun n0 s19 h=>?_
 first | rw [Xp] at h | simp only [Xp] at h
 rw [cX] at h;refine iR h fun h=>?_;refine xR h fun y21 h=>?_;refine xR h fun y23 h=>?_;refine cP h Q5c (.cons q4 (.cons q4 .nil)) fun v25 h=>?_;refine iL h fun h=>?_;show Exists _;exact ⟨(n0,(wrap .i64 (s19+1))),h,Lf _,(fun i=>i),Ya⟩
def Q07 (N:Nat) (a:J2) (b:J2):Option Bool:=
 cond (G9 .eql a.Topic b.Topic)
 (cond (G9 .eql a.Payload b.Payload)
 (cond (Q4 .eql a.QoS b.QoS)
 (cond (a.Retain == b.Retain)
 ((Wp N a.Props b.Props).bind fun v5=>
 some v5)
 (some false))
 (some false))
 (some false))
 (some false)
theorem Q9g {N} {a} {b} {r} (h:Q07 N a b=some r):pU 121 [.agg (J2.cells a),.agg (J2.cells b)] (.bool r):=by
 refine Q2 Z89 ?_;unfold Q07 at h;rw [cX,cY] at h;refine iR h fun h=>?_;refine iR h fun h=>?_;refine iR h fun h=>?_;refine iR h fun h=>?_;refine cP h Q1u p2 fun v5 h=>?_;cases h;exact (.p _)
def Q34 (_N:Nat) (a:Int) (b:Int):Option Bool:=
 some (Q4 .eql a b)
theorem Q8y {N} {a} {b} {r} (h:Q34 N a b=some r):pU 160 [.int .i64 a,.int .i64 b] (.bool r):=by
 refine Q2 Zcd ?_;unfold Q34 at h;rw [cX] at h;cases h;exact (.p _)
def Vp (N:Nat) (a:List Int) (b:List Int):Nat→Int→Option Bool
 | 0,_=>none
 | n+1,s19=>
  cond (Q4 .lss s19 ((Q8 (cI .i64) a).length:Int))
  ((idx a s19).bind fun y21=>
  (idx b s19).bind fun y23=>
  (Q34 N y21 y23).bind fun v25=>
  cond (!v25)
  (some false)
  (Vp N a b n (wrap .i64 (s19+1))))
  (some true)
def Gv (N:Nat) (a:List Int) (b:List Int):Option Bool:=
 cond (Q4 .neq ((Q8 (cI .i64) a).length:Int) ((Q8 (cI .i64) b).length:Int))
 (some false)
 (Vp N a b N 0)
theorem Qa4 {N} {a} {b} {r} (h:Gv N a b=some r):pU 122 [.slice 1 (Q8 (cI .i64) a),.slice 1 (Q8 (cI .i64) b)] (.bool r):=by
 refine Q2 Z77 ?_;unfold Gv at h;rw [cX] at h;refine Qa Z6b ?_;refine iL h fun h=>?_;refine lpH (τ:=Int) (fun s19=>(.any :: .p (.slice 1 (Q8 (cI .i64) b)) :: .p (.func (.func 160) [] [])::a8 (a4 (.p (.slice 1 (Q8 (cI .i64) a)) :: .p (.int .i64 ((Q8 (cI .i64) a).length:Int))::iI s19::a8 (a4 (a2 ([]))))):List AV)) (fun n0 s19=>Vp N a b n0 s19) (0) h fun n0 s19 h=>?_
 first | rw [Vp] at h | simp only [Vp] at h
 rw [cX] at h;refine iR h fun h=>?_;refine xR h fun y21 h=>?_;refine xR h fun y23 h=>?_;refine cP h Q8y p2 fun v25 h=>?_;refine iL h fun h=>?_;show Exists _;exact ⟨(n0,(wrap .i64 (s19+1))),h,Lf _,(fun i=>i),Ya⟩
def Jq (_N:Nat) (a:Z0) (b:Z0):Option Bool:=
 some (((a.Topic:List UInt8) == b.Topic)&&(((a.QoS:Int) == b.QoS)&&(((a.NoLocal:Bool) == b.NoLocal)&&(((a.AsPublished:Bool) == b.AsPublished)&&(((a.Handling:Int) == b.Handling)&&true)))))
theorem Q4b {N} {a} {b} {r} (h:Jq N a b=some r):pU 162 [.agg (Z0.cells a),.agg (Z0.cells b)] (.bool r):=by
 refine Q2 Z37 ?_;unfold Jq at h;cases h;exact (.p _)
def X1 (N:Nat) (a:List Z0) (b:List Z0):Nat→Int→Option Bool
 | 0,_=>none
 | n+1,s19=>
  cond (Q4 .lss s19 ((Q8 Z0.cells a).length:Int))
  ((idx a s19).bind fun y21=>
  (idx b s19).bind fun y23=>
  (Jq N y21 y23).bind fun v25=>
  cond (!v25)
  (some false)
  (X1 N a b n (wrap .i64 (s19+1))))
  (some true)
def Wz (N:Nat) (a:List Z0) (b:List Z0):Option Bool:=
 cond (Q4 .neq ((Q8 Z0.cells a).length:Int) ((Q8 Z0.cells b).length:Int))
 (some false)
 (X1 N a b N 0)
theorem Q4r {N} {a} {b} {r} (h:Wz N a b=some r):pU 123 [.slice 5 (Q8 Z0.cells a),.slice 5 (Q8 Z0.cells b)] (.bool r):=by
 refine Q2 Zf3 ?_;unfold Wz at h;rw [cX] at h;refine Qa Z5d ?_;refine iL h fun h=>?_;refine lpH (τ:=Int) (fun s19=>(.any :: .p (.slice 5 (Q8 Z0.cells b)) :: .p (.func (.func 162) [] [])::a8 (a4 (.p (.slice 5 (Q8 Z0.cells a))::iI ((Q8 Z0.cells a).length:Int)::iI s19::a8 (a4 (a2 ([]))))):List AV)) (fun n0 s19=>X1 N a b n0 s19) (0) h fun n0 s19 h=>?_
 first | rw [X1] at h | simp only [X1] at h
 rw [cX] at h;refine iR h fun h=>?_;refine xR h fun y21 h=>?_;refine xR h fun y23 h=>?_;refine cP h Q4b (.cons (Ar p5) (.cons (Ar p5) .nil)) fun v25 h=>?_;refine iL h fun h=>?_;show Exists _;exact ⟨(n0,(wrap .i64 (s19+1))),h,Lf _,(fun i=>i),Ya⟩
def Q3p (N:Nat) (a:Qu) (b:Qu):Option Bool:=
 (Q4f N a).bind fun v1=>
 (Q4f N b).bind fun v3=>
 cond (((v1.kind:Int) == v3.kind)&&(((v1.qos:Int) == v3.qos)&&(((v1.id:Int) == v3.id)&&(((v1.alive:Int) == v3.alive)&&(((v1.code:Int) == v3.code)&&(((v1.dup:Bool) == v3.dup)&&(((v1.retain:Bool) == v3.retain)&&(((v1.clean:Bool) == v3.clean)&&(((v1.user:Bool) == v3.user)&&(((v1.pass:Bool) == v3.pass)&&(((v1.will:Bool) == v3.will)&&(((v1.again:Bool) == v3.again)&&(((v1.topic:List UInt8) == v3.topic)&&(((v1.payload:List UInt8) == v3.payload)&&(((v1.client:List UInt8) == v3.client)&&(((v1.name:List UInt8) == v3.name)&&(((v1.word:List UInt8) == v3.word)&&true)))))))))))))))))
 ((Q07 N a.Will b.Will).bind fun v6=>
 cond v6
 ((Gv N a.Codes b.Codes).bind fun v9=>
 cond v9
 ((Wz N a.Filters b.Filters).bind fun v12=>
 cond v12
 ((Wp N a.Props b.Props).bind fun v15=>
 some v15)
 (some false))
 (some false))
 (some false))
 (some false)
theorem Qf8 {N} {a} {b} {r} (h:Q3p N a b=some r):pU 99 [.agg (Qu.cells a),.agg (Qu.cells b)] (.bool r):=by
 refine Q2 k99 ?_;unfold Q3p at h;refine Qp ?_;obtain ⟨v1,hv2,h⟩:=Q1k h;refine Q2g (Q76 hv2) (.cons (Ar (Xd (f8_ (.cons (.p _) .nil)))) .nil) ?_;obtain ⟨v3,hv4,h⟩:=Q1k h;refine Q2g (Q76 hv4) (.cons (Ar (Xd (f8_ (.cons (.p _) .nil)))) .nil) ?_;refine Qnh (ks := [0,0,0,0,0,2,2,2,2,2,2,2,1,1,1,1,1]) (xs := [.p (.int .i64 v1.kind),.p (.int .i64 v1.qos),.p (.int .i64 v1.id),.p (.int .i64 v1.alive),.p (.int .i64 v1.code),.p (.bool v1.dup),.p (.bool v1.retain),.p (.bool v1.clean),.p (.bool v1.user),.p (.bool v1.pass),.p (.bool v1.will),.p (.bool v1.again),.p (.str v1.topic),.p (.str v1.payload),.p (.str v1.client),.p (.str v1.name),.p (.str v1.word)]) (ys := [.p (.int .i64 v3.kind),.p (.int .i64 v3.qos),.p (.int .i64 v3.id),.p (.int .i64 v3.alive),.p (.int .i64 v3.code),.p (.bool v3.dup),.p (.bool v3.retain),.p (.bool v3.clean),.p (.bool v3.user),.p (.bool v3.pass),.p (.bool v3.will),.p (.bool v3.again),.p (.str v3.topic),.p (.str v3.payload),.p (.str v3.client),.p (.str v3.name),.p (.str v3.word)]) (b:=(((v1.kind:Int) == v3.kind)&&(((v1.qos:Int) == v3.qos)&&(((v1.id:Int) == v3.id)&&(((v1.alive:Int) == v3.alive)&&(((v1.code:Int) == v3.code)&&(((v1.dup:Bool) == v3.dup)&&(((v1.retain:Bool) == v3.retain)&&(((v1.clean:Bool) == v3.clean)&&(((v1.user:Bool) == v3.user)&&(((v1.pass:Bool) == v3.pass)&&(((v1.will:Bool) == v3.will)&&(((v1.again:Bool) == v3.again)&&(((v1.topic:List UInt8) == v3.topic)&&(((v1.payload:List UInt8) == v3.payload)&&(((v1.client:List UInt8) == v3.client)&&(((v1.name:List UInt8) == v3.name)&&(((v1.word:List UInt8) == v3.word)&&true)))))))))))))))))) rfl ?_;refine ifO h (fun hc5 h=>?_) (fun hc5 h=>?_)
 ·obtain ⟨v6,hv7,h⟩:=Q1k h;refine Q2g (Q9g hv7) (.cons (Ar (f4_ (.cons (.p _) .nil))) (.cons (Ar (f4_ (.cons (.p _) .nil))) .nil)) ?_;refine ifO h (fun hc8 h=>?_) (fun hc8 h=>?_)
  ·obtain ⟨v9,hv10,h⟩:=Q1k h;refine Q2g (Qa4 hv10) (.cons (.p _) (.cons (.p _) .nil)) ?_;refine ifO h (fun hc11 h=>?_) (fun hc11 h=>?_)
   ·obtain ⟨v12,hv13,h⟩:=Q1k h;refine Q2g (Q4r hv13) (.cons (.p _) (.cons (.p _) .nil)) ?_;refine ifO h (fun hc14 h=>?_) (fun hc14 h=>?_)
    ·obtain ⟨v15,hv16,h⟩:=Q1k h;refine Q2g (Q1u hv16) (.cons (.p _) (.cons (.p _) .nil)) ?_;have hr:=Qn h;subst hr;exact (.p _)
    have hr:=Qn h;subst hr;exact (.p _)
   have hr:=Qn h;subst hr;exact (.p _)
  have hr:=Qn h;subst hr;exact (.p _)
 have hr:=Qn h;subst hr;exact (.p _)
def Q4o (_N:Nat) (kind:Int) (id:Int):Option Bool:=
 cond (Q4 .eql id 38)
 (some true)
 (cond (Q4 .eql id 11)
 (some (Q4 .eql kind 3))
 (some false))
theorem Q7u {N} {kind} {id} {r} (h:Q4o N kind id=some r):pU 167 [.int .i64 kind,.int .i64 id] (.bool r):=by
 refine Q2 Z6g ?_;unfold Q4o at h;rw [cX] at h;refine iL h fun h=>?_;exact iB h
def Xl (N:Nat) (n_0:Int) (size:Int):Nat→Int→(List Int)→Option (List UInt8)
 | 0,_,_=>none
 | n+1,s14,l15=>
  cond (Q4 .lss s14 (ifB (decide (16<size)) 16 size))
  (cond (Q4 .lss s14 8)
  (cond (decide (0≤(wrap .u64 (wrap .i64 (8 * s14))))) ((idx (l15:List Int) (wrap .i64 ((wrap .i64 ((ifB (decide (16<size)) 16 size) - 1)) - s14))).bind fun y19=>
  Xl N n_0 size n (wrap .i64 (s14+1)) ((l15:List Int).set (Int.toNat (wrap .i64 ((wrap .i64 ((ifB (decide (16<size)) 16 size) - 1)) - s14))) (wrap .u8 (Qkl .u64 n_0 (wrap .u64 (wrap .i64 (8 * s14))))))) none)
  (Xl N n_0 size n (wrap .i64 (s14+1)) l15))
  (some (l15.map fun n=>UInt8.ofNat n.toNat))
def Yl (N:Nat) (n_0:Int) (size:Int):Option (List UInt8):=
 cond (Q4 .leq size 0)
 (some [])
 (cond (decide (0≤(ifB (decide (16<size)) 16 size))&&decide ((ifB (decide (16<size)) 16 size)≤(ifB (decide (16<size)) 16 size))&&decide ((ifB (decide (16<size)) 16 size) * 1≤1099511627776)) (Xl N n_0 size N 0 (List.replicate ((ifB (decide (16<size)) 16 size):Int).toNat (0:Int))) none)
theorem Y7 {N} {n_0} {size} {r} (h:Yl N n_0 size=some r):pU 168 [.int .u64 n_0,.int .i64 size] (.str r):=by
 refine Q2 Z4a ?_;unfold Yl at h;rw [cX] at h;refine iL h fun h=>?_;refine kU h fun h=>?_;refine Z1v (c:=(cI .u8)) (0:Int) rfl ?_;refine lpC (τ:=Int×(List Int)) (fun ⟨s14,l15⟩=>(iW n_0 :: .p (.int .i64 (ifB (decide (16<size)) 16 size))::a2 (.any :: .slice 1 1 0 l15.length::a4 (a2 (.any :: .p (.int .i64 (ifB (decide (16<size)) 16 size))::iI s14::a16 (a2 (.any :: []))))):List AV)) (fun ⟨_,l15⟩=>(.dead :: .cells (Wo (cI .u8) l15) :: []:List AObj)) (fun n0 ⟨s14,l15⟩=>Xl N n_0 size n0 s14 l15) (0,(List.replicate ((ifB (decide (16<size)) 16 size):Int).toNat (0:Int))) h (rho [0,0]) Ya fun n0 ⟨s14,l15⟩ h=>?_
 first | rw [Xl] at h | simp only [Xl] at h
 rw [cX] at h;apply iU h<;>intro h
 ·apply iU h<;>intro h
  ·refine kU h fun h=>?_;obtain ⟨y19,hy20,h⟩:=Q1k h;refine Q3b (Qx5 hy20 sd) ?_;refine Q3b (Qei (c:=(cI .u8)) (e:=1) (fun _=>rfl) hy20 (off:=0) (by omega) rfl (by decide)) ?_
   refine Qeb (c:=(cI .u8)) (e:=1) (fun _=>rfl) hy20 (wrap .u8 (Qkl .u64 n_0 (wrap .u64 (wrap .i64 (8 * s14))))) (off:=0) (by first | omega | (simp only [Qbn,orI,Qvs,Q7p,Qi7,Qkl];omega)) rfl (by simp) ?_
   show Exists _;exact ⟨(n0,(wrap .i64 (s14+1)),((l15:List Int).set (Int.toNat (wrap .i64 ((wrap .i64 ((ifB (decide (16<size)) 16 size) - 1)) - s14))) (wrap .u8 (Qkl .u64 n_0 (wrap .u64 (wrap .i64 (8 * s14))))))),h,Lf _,(fun i=>i),Ya⟩
  show Exists _;exact ⟨(n0,(wrap .i64 (s14+1)),l15),h,Lf _,(fun i=>i),Ya⟩
 refine Qdz (l:=l15) (n:=l15.length) sd ?_;cases h;exact (.p _)
def Q0s (N:Nat) (s_0:List UInt8):Option (List UInt8):=
 (Yl N (wrap .u64 (s_0.length:Int)) 2).bind fun v1=>
 cond (Nat.ble (v1.length+s_0.length) 4611686018427387904) (some (v1++s_0)) none
theorem Q92 {N} {s_0} {r} (h:Q0s N s_0=some r):pU 198 [.str s_0] (.str r):=by
 refine Q2 Z5a ?_;unfold Q0s at h;refine cP h Y7 p2 fun v1 h=>?_;refine kU h fun h=>?_;cases h;exact (.p _)
def Uu (N:Nat) (s_0:List UInt8):Option ((List UInt8)×Int):=
 cond (Q4 .gtr (s_0.length:Int) 65535)
 (some ([],2))
 ((Q0s N s_0).bind fun v2=>
 some (v2,0))
theorem Q3z {N} {s_0} {r} (h:Uu N s_0=some r):pU 169 [.str s_0] (.tuple [.str r.1,.int .i64 r.2]):=by
 refine Q2 Z3u ?_;unfold Uu at h;rw [cX] at h;refine iL2 h fun h=>?_;refine cP h Q92 p1 fun v2 h=>?_;obtain rfl:=Qn h;exact u2
def Q2q (_N:Nat) (n_0:Int):Option Bool:=
 cond (Q4 .geq n_0 0)
 (some (Q4 .leq n_0 268435455))
 (some false)
theorem Qe4 {N} {n_0} {r} (h:Q2q N n_0=some r):pU 170 [.int .i64 n_0] (.bool r):=by
 refine Q2 Z7c ?_;unfold Q2q at h;rw [cX] at h;exact iB h
def V1 (N:Nat):Nat→Int→(List Int)→Option ((List UInt8)×Int)
 | 0,_,_=>none
 | n+1,n9,l10=>
  cond (Q4 .geq n9 128)
  (cond (Nat.ble ((l10.length+1+4096) * 1) 17592186044416) (V1 N n (wrap .i64 ((n9:Int).tdiv 128)) (l10 ++ [(orI .u8 (wrap .u8 ((n9:Int).tmod 128)) 128)])) none)
  (cond (Nat.ble ((l10.length+1+4096) * 1) 17592186044416) (some (((l10 ++ [(wrap .u8 n9)]).map fun n=>UInt8.ofNat n.toNat),0)) none)
def U8 (N:Nat) (n_0:Int):Option ((List UInt8)×Int):=
 (Q2q N n_0).bind fun v1=>
 cond (!v1)
 (some ([],2))
 (V1 N N n_0 [])
theorem Q2a {N} {n_0} {r} (h:U8 N n_0=some r):pU 131 [.int .i64 n_0] (.tuple [.str r.1,.int .i64 r.2]):=by
 refine Q2 Z5h ?_;unfold U8 at h;refine cP h Qe4 p1 fun v1 h=>?_;refine iL2 h fun h=>?_;refine lpA (τ:=Int×(List Int)) (fun ⟨n9,l10⟩=>(iI n9::a2 (.any :: .slice 1 0 0 l10.length::a16 (a4 ([]))):List AV)) (fun ⟨_,l10⟩=>(.cells (Wo (cI .u8) l10) :: []:List AObj)) (fun n0 ⟨n9,l10⟩=>V1 N n0 n9 l10) (n_0,[]) h fun n0 ⟨n9,l10⟩ h=>?_
 first | rw [V1] at h | simp only [V1] at h
 rw [cX] at h;apply iU h<;>intro h
 ·obtain ⟨hk12,h⟩:=Q59 h;refine Q3b (Xk (c:=(cI .u8)) (e:=1) (fun _=>rfl) sd hk12) ?_;refine Un (c:=(cI .u8)) [(orI .u8 (wrap .u8 ((n9:Int).tmod 128)) 128)] rfl ?_;show Exists _;exact ⟨(n0,(wrap .i64 ((n9:Int).tdiv 128)),(l10 ++ [(orI .u8 (wrap .u8 ((n9:Int).tmod 128)) 128)])),h,Lf _,(rho [2]),Ya⟩
 obtain ⟨hk13,h⟩:=Q59 h;refine Q3b (Xk (c:=(cI .u8)) (e:=1) (fun _=>rfl) sd hk13) ?_;refine Un (c:=(cI .u8)) [(wrap .u8 n9)] rfl ?_;refine Qdz (l:=(l10 ++ [(wrap .u8 n9)])) (n:=(l10.length+1)) sd ?_;obtain rfl:=Qn h;exact u2
def Jm (N:Nat) (shape:Int) (p:Qk):Option (List UInt8):=
 cond (Q4 .eql shape 1)
 ((Yl N (wrap .u64 p.N') shape).bind fun v2=>
 some v2)
 (cond (Q4 .eql shape 2)
 ((Yl N (wrap .u64 p.N') shape).bind fun v5=>
 some v5)
 (cond (Q4 .eql shape 3)
 ((Yl N (wrap .u64 p.N') 4).bind fun v8=>
 some v8)
 (cond (Q4 .eql shape 4)
 ((U8 N (wrap .i64 p.N')).bind fun v11=>
 some v11.1)
 ((Uu N p.Text).bind fun v13=>
 cond (Q4 .neq shape 7)
 (some v13.1)
 ((Uu N p.Value).bind fun v16=>
 cond (Nat.ble (v13.1.length+v16.1.length) 4611686018427387904) (some (v13.1++v16.1)) none)))))
theorem Q1j {N} {shape} {p} {r} (h:Jm N shape p=some r):pU 129 [.int .i64 shape,.agg (Qk.cells p)] (.str r):=by
 refine Q2 Zfd ?_;unfold Jm at h;rw [cX] at h;refine ifO h (fun hc1 h=>?_) (fun hc1 h=>?_)
 ·refine ifT hc1 ?_;refine cP h Y7 p2 fun v2 h=>?_;cases h;exact (.p _)
 apply iU h<;>intro h
 ·refine cP h Y7 p2 fun v5 h=>?_;cases h;exact (.p _)
 apply iU h<;>intro h
 ·refine cP h Y7 p2 fun v8 h=>?_;cases h;exact (.p _)
 apply iU h<;>intro h
 ·refine cP h Q2a p1 fun v11 h=>?_;cases h;exact (.p _)
 refine cP h Q3z p1 fun v13 h=>?_;refine iL h fun h=>?_;refine cP h Q3z p1 fun v16 h=>?_;refine kU h fun h=>?_;cases h;exact (.p _)
def F_prop_rules_tab:List (Int×Qt) := [(1,(⟨1,65544,0,1⟩:Qt)),(2,(⟨3,65544,0,4294967295⟩:Qt)),(3,(⟨5,65544,0,0⟩:Qt)),(8,(⟨5,65544,0,0⟩:Qt)),(9,(⟨6,65544,0,0⟩:Qt)),(11,(⟨4,264,1,268435455⟩:Qt)),(17,(⟨3,16390,0,4294967295⟩:Qt)),(18,(⟨5,4,0,0⟩:Qt)),(19,(⟨2,4,0,65535⟩:Qt)),(21,(⟨5,32774,0,0⟩:Qt)),(22,(⟨6,32774,0,0⟩:Qt)),(23,(⟨1,2,0,1⟩:Qt)),(24,(⟨3,65536,0,4294967295⟩:Qt)),(25,(⟨1,2,0,1⟩:Qt)),(26,(⟨5,4,0,0⟩:Qt)),(28,(⟨5,16388,0,0⟩:Qt)),(31,(⟨5,51956,0,0⟩:Qt)),(33,(⟨2,6,1,65535⟩:Qt)),(34,(⟨2,6,0,65535⟩:Qt)),(35,(⟨2,8,1,65535⟩:Qt)),(36,(⟨1,4,0,1⟩:Qt)),(37,(⟨1,4,0,1⟩:Qt)),(38,(⟨7,118782,0,0⟩:Qt)),(39,(⟨3,6,1,4294967295⟩:Qt)),(40,(⟨1,4,0,1⟩:Qt)),(41,(⟨1,4,0,1⟩:Qt)),(42,(⟨1,4,0,1⟩:Qt))]
theorem Qek:pU 126 [] (.pmap (Z0y (fun v => .agg (Qt.cells v)) F_prop_rules_tab)):=Q4i Qjr (N:=2000) (d:=60) (by kernel_rfl)
def Q47 (_N:Nat) (r_0:Qt) (kind:Int):Option Bool:=
 cond (Q4 .geq kind 1)
 (cond (Q4 .leq kind 16)
 (cond (decide (0≤(wrap .u64 kind))) (some (Q4 .eql (Qbn .i64 (Qkl .i64 r_0.kinds (wrap .u64 kind)) 1) 1)) none)
 (some false))
 (some false)
theorem Q9i {N} {r_0} {kind} {r} (h:Q47 N r_0 kind=some r):pU 165 [.agg (Qt.cells r_0),.int .i64 kind] (.bool r):=by
 refine Q2 Zcz ?_;unfold Q47 at h;rw [cX] at h;refine iR h fun h=>?_;refine iR h fun h=>?_;refine kU h fun h=>?_;cases h;exact (.p _)
def Gh (_N:Nat) (r_0:Qt) (p:Qk):Option Int:=
 cond (G9 .neq p.Text [])
 (some 2)
 (cond (G9 .neq p.Value [])
 (some 2)
 (cond (Q4 .lss p.N' r_0.least)
 (some 9)
 (cond (Q4 .gtr p.N' r_0.most)
 (some 9)
 (some 0))))
theorem Q7l {N} {r_0} {p} {r} (h:Gh N r_0 p=some r):pU 166 [.agg (Qt.cells r_0),.agg (Qk.cells p)] (.int .i64 r):=by
 refine Q2 Zbb ?_;unfold Gh at h;rw [cX,cY] at h;refine iL h fun h=>?_;refine iL h fun h=>?_;refine iL h fun h=>?_;exact iB h
def Gy (N:Nat) (r_0:Qt) (kind:Int) (p:Qk):Option Int:=
 (Q47 N r_0 kind).bind fun v1=>
 cond (!v1)
 (some 9)
 (cond (Q4 .leq r_0.shape 4)
 ((Gh N r_0 p).bind fun v5=>
 some v5)
 (cond (Q4 .neq p.N' 0)
 (some 2)
 (cond (G9 .neq p.Value [])
 (cond (Q4 .neq r_0.shape 7)
 (some 2)
 (cond (Q4 .eql r_0.shape 6)
 (cond (Q4 .gtr (p.Text.length:Int) 65535)
 (some 2)
 (some 0))
 ((Yy N p.Text).bind fun v12=>
 cond (!v12)
 (some 6)
 ((Yy N p.Value).bind fun v15=>
 cond (!v15)
 (some 6)
 (cond (Q4 .eql p.ID 8)
 ((X4 N p.Text).bind fun v19=>
 cond (!v19)
 (some 9)
 (some 0))
 (some 0))))))
 (cond (Q4 .eql r_0.shape 6)
 (cond (Q4 .gtr (p.Text.length:Int) 65535)
 (some 2)
 (some 0))
 ((Yy N p.Text).bind fun v24=>
 cond (!v24)
 (some 6)
 ((Yy N p.Value).bind fun v27=>
 cond (!v27)
 (some 6)
 (cond (Q4 .eql p.ID 8)
 ((X4 N p.Text).bind fun v31=>
 cond (!v31)
 (some 9)
 (some 0))
 (some 0))))))))
theorem Q78 {N} {r_0} {kind} {p} {r} (h:Gy N r_0 kind p=some r):pU 127 [.agg (Qt.cells r_0),.int .i64 kind,.agg (Qk.cells p)] (.int .i64 r):=by
 refine Q2 Zef ?_;unfold Gy at h;rw [cX,cY] at h;refine cP h Q9i (.cons q4 p1) fun v1 h=>?_;refine iL h fun h=>?_;apply iU h<;>intro h
 ·refine cP h Q7l (.cons q4 (.cons q4 .nil)) fun v5 h=>?_;cases h;exact (.p _)
 refine iL h fun h=>?_;apply iU h<;>intro h
 ·refine iL h fun h=>?_;apply iU h<;>intro h
  ·exact iB h
  refine cP h Wg p1 fun v12 h=>?_;refine iL h fun h=>?_;refine cP h Wg p1 fun v15 h=>?_;refine iL h fun h=>?_;refine iR h fun h=>?_;refine cP h Xy p1 fun v19 h=>?_;exact iB h
 apply iU h<;>intro h
 ·exact iB h
 refine cP h Wg p1 fun v24 h=>?_;refine iL h fun h=>?_;refine cP h Wg p1 fun v27 h=>?_;refine iL h fun h=>?_;refine iR h fun h=>?_;refine cP h Xy p1 fun v31 h=>?_;exact iB h
def Zl (N:Nat) (kind:Int) (l:List Qk):Nat→Int→(List Int)→(List Int)→Option ((List UInt8)×Int)
 | 0,_,_,_=>none
 | n+1,s107,l108,l109=>
  cond (Q4 .lss s107 ((Q8 Qk.cells l).length:Int))
  ((idx l s107).bind fun y111=>
  optC (Q3o F_prop_rules_tab y111.ID) (fun m113=>
  (Gy N m113 kind y111).bind fun v115=>
  cond (Q4 .neq v115 0)
  (some ([],v115))
  (cond (decide (0≤y111.ID)&&decide (y111.ID<((64:Nat):Int))) ((idx (l108:List Int) y111.ID).bind fun y118=>
  (idx (l108:List Int) y111.ID).bind fun y121=>
  (idx (((l108:List Int).set (Int.toNat y111.ID) (wrap .i64 (y118+1))):List Int) y111.ID).bind fun y123=>
  cond (Q4 .gtr y123 1)
  ((Q4o N kind y111.ID).bind fun v126=>
  cond (!v126)
  (some ([],9))
  (cond (Nat.ble ((l109.length+1+4096) * 1) 17592186044416) ((Jm N m113.shape y111).bind fun v130=>
  cond (Nat.beq v130.length 0)
  (Zl N kind l n (wrap .i64 (s107+1)) ((l108:List Int).set (Int.toNat y111.ID) (wrap .i64 (y118+1))) (l109 ++ [(wrap .u8 y111.ID)]))
  (cond (Nat.ble (((l109.length+1)+v130.length+4096) * 1) 17592186044416) (Zl N kind l n (wrap .i64 (s107+1)) ((l108:List Int).set (Int.toNat y111.ID) (wrap .i64 (y118+1))) ((l109 ++ [(wrap .u8 y111.ID)])++(v130.map fun b=>(b.toNat:Int)))) none)) none))
  (cond (Nat.ble ((l109.length+1+4096) * 1) 17592186044416) ((Jm N m113.shape y111).bind fun v135=>
  cond (Nat.beq v135.length 0)
  (Zl N kind l n (wrap .i64 (s107+1)) ((l108:List Int).set (Int.toNat y111.ID) (wrap .i64 (y118+1))) (l109 ++ [(wrap .u8 y111.ID)]))
  (cond (Nat.ble (((l109.length+1)+v135.length+4096) * 1) 17592186044416) (Zl N kind l n (wrap .i64 (s107+1)) ((l108:List Int).set (Int.toNat y111.ID) (wrap .i64 (y118+1))) ((l109 ++ [(wrap .u8 y111.ID)])++(v135.map fun b=>(b.toNat:Int)))) none)) none)) none))
  ((Gy N (⟨0,0,0,0⟩:Qt) kind y111).bind fun v139=>
  cond (Q4 .neq v139 0)
  (some ([],v139))
  (cond (decide (0≤y111.ID)&&decide (y111.ID<((64:Nat):Int))) ((idx (l108:List Int) y111.ID).bind fun y142=>
  (idx (l108:List Int) y111.ID).bind fun y145=>
  (idx (((l108:List Int).set (Int.toNat y111.ID) (wrap .i64 (y142+1))):List Int) y111.ID).bind fun y147=>
  cond (Q4 .gtr y147 1)
  ((Q4o N kind y111.ID).bind fun v150=>
  cond (!v150)
  (some ([],9))
  (cond (Nat.ble ((l109.length+1+4096) * 1) 17592186044416) ((Jm N 0 y111).bind fun v154=>
  cond (Nat.beq v154.length 0)
  (Zl N kind l n (wrap .i64 (s107+1)) ((l108:List Int).set (Int.toNat y111.ID) (wrap .i64 (y142+1))) (l109 ++ [(wrap .u8 y111.ID)]))
  (cond (Nat.ble (((l109.length+1)+v154.length+4096) * 1) 17592186044416) (Zl N kind l n (wrap .i64 (s107+1)) ((l108:List Int).set (Int.toNat y111.ID) (wrap .i64 (y142+1))) ((l109 ++ [(wrap .u8 y111.ID)])++(v154.map fun b=>(b.toNat:Int)))) none)) none))
  (cond (Nat.ble ((l109.length+1+4096) * 1) 17592186044416) ((Jm N 0 y111).bind fun v159=>
  cond (Nat.beq v159.length 0)
  (Zl N kind l n (wrap .i64 (s107+1)) ((l108:List Int).set (Int.toNat y111.ID) (wrap .i64 (y142+1))) (l109 ++ [(wrap .u8 y111.ID)]))
  (cond (Nat.ble (((l109.length+1)+v159.length+4096) * 1) 17592186044416) (Zl N kind l n (wrap .i64 (s107+1)) ((l108:List Int).set (Int.toNat y111.ID) (wrap .i64 (y142+1))) ((l109 ++ [(wrap .u8 y111.ID)])++(v159.map fun b=>(b.toNat:Int)))) none)) none)) none)))
  ((idx (l108:List Int) 22).bind fun y163=>
  cond (Q4 .gtr y163 0)
  ((idx (l108:List Int) 21).bind fun y166=>
  cond (Q4 .eql y166 0)
  (some ([],9))
  ((U8 N (l109.length:Int)).bind fun v169=>
  cond (Q4 .neq v169.2 0)
  (some ([],4))
  (cond (Nat.ble (v169.1.length+(l109.map fun n=>UInt8.ofNat n.toNat).length) 4611686018427387904) (some ((v169.1++(l109.map fun n=>UInt8.ofNat n.toNat)),0)) none)))
  ((U8 N (l109.length:Int)).bind fun v173=>
  cond (Q4 .neq v173.2 0)
  (some ([],4))
  (cond (Nat.ble (v173.1.length+(l109.map fun n=>UInt8.ofNat n.toNat).length) 4611686018427387904) (some ((v173.1++(l109.map fun n=>UInt8.ofNat n.toNat)),0)) none)))
def Q4j (N:Nat) (kind:Int) (l:List Qk):Option ((List UInt8)×Int):=
 cond (Q4 .gtr ((Q8 Qk.cells l).length:Int) 1000)
 (some ([],4))
 (Zl N kind l N 0 [0,0,0,0,0,0,0,0,0,0,0,0,0,0,0,0,0,0,0,0,0,0,0,0,0,0,0,0,0,0,0,0,0,0,0,0,0,0,0,0,0,0,0,0,0,0,0,0,0,0,0,0,0,0,0,0,0,0,0,0,0,0,0,0] [])
theorem Qdf {N} {kind} {l} {r} (h:Q4j N kind l=some r):pU 101 [.int .i64 kind,.slice 4 (Q8 Qk.cells l)] (.tuple [.str r.1,.int .i64 r.2]):=by
 refine Q2 Zfl ?_;unfold Q4j at h;rw [cX] at h;refine iL2 h fun h=>?_;refine Wl Qek .nil ?_;refine lpA (τ:=Int×(List Int)×(List Int)) (fun ⟨s107,_,l109⟩=>(iI kind::a4 (.any :: .p (.pmap (Z0y (fun v => .agg (Qt.cells v)) F_prop_rules_tab)) :: .ptr 0 0 :: .slice 1 1 0 l109.length::a8 (a2 (.p (.slice 4 (Q8 Qk.cells l))::iI ((Q8 Qk.cells l).length:Int)::iI s107::a16 (a16 (a8 (a2 (.any :: []))))))):List AV)) (fun ⟨_,l108,l109⟩=>(.cells (Wo (cI .i64) l108) :: .cells (Wo (cI .u8) l109) :: []:List AObj)) (fun n0 ⟨s107,l108,l109⟩=>Zl N kind l n0 s107 l108 l109) (0,[0,0,0,0,0,0,0,0,0,0,0,0,0,0,0,0,0,0,0,0,0,0,0,0,0,0,0,0,0,0,0,0,0,0,0,0,0,0,0,0,0,0,0,0,0,0,0,0,0,0,0,0,0,0,0,0,0,0,0,0,0,0,0,0],[]) h fun n0 ⟨s107,l108,l109⟩ h=>?_
 first | rw [Zl] at h | simp only [Zl] at h
 rw [cX] at h;apply iU h<;>intro h
 ·refine xR h fun y111 h=>?_;refine Qv5 h (fun m113 hm114 h=>?_) (fun hm114 h=>?_)
  ·refine cP h Q78 (.cons q4 (.cons (.p _) (.cons q4 .nil))) fun v115 h=>?_;refine iL2 h fun h=>?_;refine Qa Z1u ?_;refine Qp ?_;obtain ⟨hk120,h⟩:=Q59 h;refine Q3b hk120 ?_;obtain ⟨y118,hy119,h⟩:=Q1k h
   refine Q9a (c:=(cI .i64)) (e:=1) (fun _=>rfl) hy119 (off:=0) (by decide) (by first | omega | (simp only [Qbn,orI,Qvs,Q7p,Qi7,Qkl];omega)) ?_
   refine Q3b hk120 ?_;obtain ⟨y121,hy122,h⟩:=Q1k h;refine Q3b (Qei (c:=(cI .i64)) (e:=1) (fun _=>rfl) hy122 (off:=0) (by omega) rfl (by decide)) ?_
   refine Qeb (c:=(cI .i64)) (e:=1) (fun _=>rfl) hy122 (wrap .i64 (y118+1)) (off:=0) (by first | omega | (simp only [Qbn,orI,Qvs,Q7p,Qi7,Qkl];omega)) rfl (by simp) ?_
   refine Q3b hk120 ?_;obtain ⟨y123,hy124,h⟩:=Q1k h
   refine Q9a (c:=(cI .i64)) (e:=1) (fun _=>rfl) hy124 (off:=0) (by decide) (by first | omega | (simp only [Qbn,orI,Qvs,Q7p,Qi7,Qkl];omega)) ?_
   apply iU h<;>intro h
   ·refine cP h Q7u p2 fun v126 h=>?_;refine iL2 h fun h=>?_;refine Qp ?_;obtain ⟨hk129,h⟩:=Q59 h;refine Q3b (Xk (c:=(cI .u8)) (e:=1) (fun _=>rfl) sd hk129) ?_;refine Un (c:=(cI .u8)) [(wrap .u8 y111.ID)] rfl ?_;refine cD h Q1j (.cons (.p _) (.cons q4 .nil)) fun v130 h=>?_;refine Qbh (b:=v130) ?_;apply iU h<;>intro h
    ·show Exists _;exact ⟨(n0,(wrap .i64 (s107+1)),((l108:List Int).set (Int.toNat y111.ID) (wrap .i64 (y118+1))),(l109 ++ [(wrap .u8 y111.ID)])),h,Lf _,(rho [0,5]),Ya⟩
    obtain ⟨hk133,h⟩:=Q59 h;refine Q3b (Xk (c:=(cI .u8)) (e:=1) (l:=(l109 ++ [(wrap .u8 y111.ID)])) (fun _=>rfl) sd hk133) ?_;refine Un (c:=(cI .u8)) (l:=(l109 ++ [(wrap .u8 y111.ID)])) (v130.map fun b=>(b.toNat:Int)) rfl ?_;show Exists _;exact ⟨(n0,(wrap .i64 (s107+1)),((l108:List Int).set (Int.toNat y111.ID) (wrap .i64 (y118+1))),((l109 ++ [(wrap .u8 y111.ID)])++(v130.map fun b=>(b.toNat:Int)))),h,Lf _,(rho [0,6]),Ya⟩
   refine Qp ?_;obtain ⟨hk134,h⟩:=Q59 h;refine Q3b (Xk (c:=(cI .u8)) (e:=1) (fun _=>rfl) sd hk134) ?_;refine Un (c:=(cI .u8)) [(wrap .u8 y111.ID)] rfl ?_;refine cD h Q1j (.cons (.p _) (.cons q4 .nil)) fun v135 h=>?_;refine Qbh (b:=v135) ?_;apply iU h<;>intro h
   ·show Exists _;exact ⟨(n0,(wrap .i64 (s107+1)),((l108:List Int).set (Int.toNat y111.ID) (wrap .i64 (y118+1))),(l109 ++ [(wrap .u8 y111.ID)])),h,Lf _,(rho [0,5]),Ya⟩
   obtain ⟨hk138,h⟩:=Q59 h;refine Q3b (Xk (c:=(cI .u8)) (e:=1) (l:=(l109 ++ [(wrap .u8 y111.ID)])) (fun _=>rfl) sd hk138) ?_;refine Un (c:=(cI .u8)) (l:=(l109 ++ [(wrap .u8 y111.ID)])) (v135.map fun b=>(b.toNat:Int)) rfl ?_;show Exists _;exact ⟨(n0,(wrap .i64 (s107+1)),((l108:List Int).set (Int.toNat y111.ID) (wrap .i64 (y118+1))),((l109 ++ [(wrap .u8 y111.ID)])++(v135.map fun b=>(b.toNat:Int)))),h,Lf _,(rho [0,6]),Ya⟩
  refine cP h Q78 (.cons q4 (.cons (.p _) (.cons q4 .nil))) fun v139 h=>?_;refine iL2 h fun h=>?_;refine Qa Z1u ?_;refine Qp ?_;obtain ⟨hk144,h⟩:=Q59 h;refine Q3b hk144 ?_;obtain ⟨y142,hy143,h⟩:=Q1k h
  refine Q9a (c:=(cI .i64)) (e:=1) (fun _=>rfl) hy143 (off:=0) (by decide) (by first | omega | (simp only [Qbn,orI,Qvs,Q7p,Qi7,Qkl];omega)) ?_
  refine Q3b hk144 ?_;obtain ⟨y145,hy146,h⟩:=Q1k h;refine Q3b (Qei (c:=(cI .i64)) (e:=1) (fun _=>rfl) hy146 (off:=0) (by omega) rfl (by decide)) ?_
  refine Qeb (c:=(cI .i64)) (e:=1) (fun _=>rfl) hy146 (wrap .i64 (y142+1)) (off:=0) (by first | omega | (simp only [Qbn,orI,Qvs,Q7p,Qi7,Qkl];omega)) rfl (by simp) ?_
  refine Q3b hk144 ?_;obtain ⟨y147,hy148,h⟩:=Q1k h
  refine Q9a (c:=(cI .i64)) (e:=1) (fun _=>rfl) hy148 (off:=0) (by decide) (by first | omega | (simp only [Qbn,orI,Qvs,Q7p,Qi7,Qkl];omega)) ?_
  apply iU h<;>intro h
  ·refine cP h Q7u p2 fun v150 h=>?_;refine iL2 h fun h=>?_;refine Qp ?_;obtain ⟨hk153,h⟩:=Q59 h;refine Q3b (Xk (c:=(cI .u8)) (e:=1) (fun _=>rfl) sd hk153) ?_;refine Un (c:=(cI .u8)) [(wrap .u8 y111.ID)] rfl ?_;refine cD h Q1j (.cons (.p _) (.cons q4 .nil)) fun v154 h=>?_;refine Qbh (b:=v154) ?_;apply iU h<;>intro h
   ·show Exists _;exact ⟨(n0,(wrap .i64 (s107+1)),((l108:List Int).set (Int.toNat y111.ID) (wrap .i64 (y142+1))),(l109 ++ [(wrap .u8 y111.ID)])),h,Lf _,(rho [0,5]),Ya⟩
   obtain ⟨hk157,h⟩:=Q59 h;refine Q3b (Xk (c:=(cI .u8)) (e:=1) (l:=(l109 ++ [(wrap .u8 y111.ID)])) (fun _=>rfl) sd hk157) ?_;refine Un (c:=(cI .u8)) (l:=(l109 ++ [(wrap .u8 y111.ID)])) (v154.map fun b=>(b.toNat:Int)) rfl ?_;show Exists _;exact ⟨(n0,(wrap .i64 (s107+1)),((l108:List Int).set (Int.toNat y111.ID) (wrap .i64 (y142+1))),((l109 ++ [(wrap .u8 y111.ID)])++(v154.map fun b=>(b.toNat:Int)))),h,Lf _,(rho [0,6]),Ya⟩
  refine Qp ?_;obtain ⟨hk158,h⟩:=Q59 h;refine Q3b (Xk (c:=(cI .u8)) (e:=1) (fun _=>rfl) sd hk158) ?_;refine Un (c:=(cI .u8)) [(wrap .u8 y111.ID)] rfl ?_;refine cD h Q1j (.cons (.p _) (.cons q4 .nil)) fun v159 h=>?_;refine Qbh (b:=v159) ?_;apply iU h<;>intro h
  ·show Exists _;exact ⟨(n0,(wrap .i64 (s107+1)),((l108:List Int).set (Int.toNat y111.ID) (wrap .i64 (y142+1))),(l109 ++ [(wrap .u8 y111.ID)])),h,Lf _,(rho [0,5]),Ya⟩
  obtain ⟨hk162,h⟩:=Q59 h;refine Q3b (Xk (c:=(cI .u8)) (e:=1) (l:=(l109 ++ [(wrap .u8 y111.ID)])) (fun _=>rfl) sd hk162) ?_;refine Un (c:=(cI .u8)) (l:=(l109 ++ [(wrap .u8 y111.ID)])) (v159.map fun b=>(b.toNat:Int)) rfl ?_;show Exists _;exact ⟨(n0,(wrap .i64 (s107+1)),((l108:List Int).set (Int.toNat y111.ID) (wrap .i64 (y142+1))),((l109 ++ [(wrap .u8 y111.ID)])++(v159.map fun b=>(b.toNat:Int)))),h,Lf _,(rho [0,6]),Ya⟩
 refine Qa Zei ?_;obtain ⟨y163,hy164,h⟩:=Q1k h;refine Q9a (c:=(cI .i64)) (e:=1) (n:=1) (j:=22) (fun _=>rfl) hy164 (off:=0) (by decide) rfl ?_;apply iU h<;>intro h
 ·obtain ⟨y166,hy167,h⟩:=Q1k h;refine Q9a (c:=(cI .i64)) (e:=1) (n:=1) (j:=21) (fun _=>rfl) hy167 (off:=0) (by decide) rfl ?_;refine iL2 h fun h=>?_;refine cP h Q2a p1 fun v169 h=>?_;refine iL2 h fun h=>?_;refine Qdz (l:=l109) (n:=l109.length) sd ?_;refine kU h fun h=>?_;obtain rfl:=Qn h;exact u2
 refine cP h Q2a p1 fun v173 h=>?_;refine iL2 h fun h=>?_;refine Qdz (l:=l109) (n:=l109.length) sd ?_;refine kU h fun h=>?_;obtain rfl:=Qn h;exact u2
def W6 (N:Nat) (kind:Int) (l:List Qk):Option Int:=
 (Q4j N kind l).bind fun v1=>
 some v1.2
theorem Qdx {N} {kind} {l} {r} (h:W6 N kind l=some r):pU 71 [.int .i64 kind,.slice 4 (Q8 Qk.cells l)] (.int .i64 r):=by
 refine Q2 k71 ?_;unfold W6 at h;refine cP h Qdf p2 fun v1 h=>?_;cases h;exact (.p _)
def Q0p (_N:Nat) (l:Xm):Option Bool:=
 cond (Q4 .geq l.MaxPacket 16)
 (cond (Q4 .leq l.MaxPacket 1048576)
 (cond (Q4 .geq l.MaxDepth 0)
 (some (Q4 .leq l.MaxDepth 32))
 (some false))
 (some false))
 (some false)
theorem Qao {N} {l} {r} (h:Q0p N l=some r):pU 153 [.agg (Xm.cells l)] (.bool r):=by
 refine Q2 Z7s ?_;unfold Q0p at h;rw [cX] at h;refine iR h fun h=>?_;refine iR h fun h=>?_;exact iB h
def Jh (_N:Nat) (h_0:Vd):Option Bool:=
 cond (Q4 .geq h_0.Radius 0)
 (cond (Q4 .leq h_0.Radius 3)
 (cond (Q4 .geq (h_0.Node.length:Int) 1)
 (some (Q4 .leq (h_0.Node.length:Int) 32))
 (some false))
 (some false))
 (some false)
theorem Q8f {N} {h_0} {r} (h:Jh N h_0=some r):pU 156 [.agg (Vd.cells h_0)] (.bool r):=by
 refine Q2 Z3z ?_;unfold Jh at h;rw [cX] at h;refine iR h fun h=>?_;refine iR h fun h=>?_;exact iB h
def Jz (N:Nat) (h_0:Vd):Option Bool:=
 (Jh N h_0).bind fun v1=>
 some (!v1)
theorem Q9c {N} {h_0} {r} (h:Jz N h_0=some r):pU 155 [.agg (Vd.cells h_0)] (.bool r):=by
 refine Q2 Z5m ?_;unfold Jz at h;refine cP h Q8f (.cons q2 .nil) fun v1 h=>?_;cases h;exact (.p _)
def Q0a (_N:Nat) (f:Qz):Option (Int×Int):=
 cond (Q4 .lss f.QoS (-1))
 (some (0,7))
 (cond (Q4 .gtr f.QoS 2)
 (some (0,7))
 (cond (Q4 .lss f.Type' 0)
 (some (0,7))
 (cond (Q4 .gtr f.Type' 2)
 (some (0,7))
 (cond f.Clean
 (cond f.Will
 (cond f.Retain
 (cond f.Dup
 (some ((orI .i64 (orI .i64 (orI .i64 (orI .i64 (orI .i64 f.Type' 4) 8) 16) 128) (wrap .i64 ((Qbn .i64 f.QoS 3) * 32))),0))
 (some ((orI .i64 (orI .i64 (orI .i64 (orI .i64 f.Type' 4) 8) 16) (wrap .i64 ((Qbn .i64 f.QoS 3) * 32))),0)))
 (cond f.Dup
 (some ((orI .i64 (orI .i64 (orI .i64 (orI .i64 f.Type' 4) 8) 128) (wrap .i64 ((Qbn .i64 f.QoS 3) * 32))),0))
 (some ((orI .i64 (orI .i64 (orI .i64 f.Type' 4) 8) (wrap .i64 ((Qbn .i64 f.QoS 3) * 32))),0))))
 (cond f.Retain
 (cond f.Dup
 (some ((orI .i64 (orI .i64 (orI .i64 (orI .i64 f.Type' 4) 16) 128) (wrap .i64 ((Qbn .i64 f.QoS 3) * 32))),0))
 (some ((orI .i64 (orI .i64 (orI .i64 f.Type' 4) 16) (wrap .i64 ((Qbn .i64 f.QoS 3) * 32))),0)))
 (cond f.Dup
 (some ((orI .i64 (orI .i64 (orI .i64 f.Type' 4) 128) (wrap .i64 ((Qbn .i64 f.QoS 3) * 32))),0))
 (some ((orI .i64 (orI .i64 f.Type' 4) (wrap .i64 ((Qbn .i64 f.QoS 3) * 32))),0)))))
 (cond f.Will
 (cond f.Retain
 (cond f.Dup
 (some ((orI .i64 (orI .i64 (orI .i64 (orI .i64 f.Type' 8) 16) 128) (wrap .i64 ((Qbn .i64 f.QoS 3) * 32))),0))
 (some ((orI .i64 (orI .i64 (orI .i64 f.Type' 8) 16) (wrap .i64 ((Qbn .i64 f.QoS 3) * 32))),0)))
 (cond f.Dup
 (some ((orI .i64 (orI .i64 (orI .i64 f.Type' 8) 128) (wrap .i64 ((Qbn .i64 f.QoS 3) * 32))),0))
 (some ((orI .i64 (orI .i64 f.Type' 8) (wrap .i64 ((Qbn .i64 f.QoS 3) * 32))),0))))
 (cond f.Retain
 (cond f.Dup
 (some ((orI .i64 (orI .i64 (orI .i64 f.Type' 16) 128) (wrap .i64 ((Qbn .i64 f.QoS 3) * 32))),0))
 (some ((orI .i64 (orI .i64 f.Type' 16) (wrap .i64 ((Qbn .i64 f.QoS 3) * 32))),0)))
 (cond f.Dup
 (some ((orI .i64 (orI .i64 f.Type' 128) (wrap .i64 ((Qbn .i64 f.QoS 3) * 32))),0))
 (some ((orI .i64 f.Type' (wrap .i64 ((Qbn .i64 f.QoS 3) * 32))),0)))))))))
theorem Q6o {N} {f} {r} (h:Q0a N f=some r):pU 248 [.agg (Qz.cells f)] (.tuple [.int .i64 r.1,.int .i64 r.2]):=by
 refine Q2 Zee ?_;unfold Q0a at h;rw [cX] at h;refine iL2 h fun h=>?_;refine iL2 h fun h=>?_;refine iL2 h fun h=>?_;refine iL2 h fun h=>?_;refine Qa Qkk ?_;apply iU h<;>intro h
 ·refine Qa Qkk ?_;apply iU h<;>intro h
  ·refine Qa Qkk ?_;apply iU h<;>intro h
   ·refine Qa Qkk ?_;exact iB2 h
   refine Qa Qkk ?_;exact iB2 h
  refine Qa Qkk ?_;apply iU h<;>intro h
  ·refine Qa Qkk ?_;exact iB2 h
  refine Qa Qkk ?_;exact iB2 h
 refine Qa Qkk ?_;apply iU h<;>intro h
 ·refine Qa Qkk ?_;apply iU h<;>intro h
  ·refine Qa Qkk ?_;exact iB2 h
  refine Qa Qkk ?_;exact iB2 h
 refine Qa Qkk ?_;apply iU h<;>intro h
 ·refine Qa Qkk ?_;exact iB2 h
 refine Qa Qkk ?_;exact iB2 h
def Y1 (N:Nat) (c:Qh):Option ((Unit)×Qh):=
 (Q0a N c.m.Flags).bind fun v1=>
 cond (Q4 .eql c.do' 2)
 (some ((),c))
 (cond (Q4 .eql c.do' 0)
 ((Q0x N []).bind fun v5=>
 some ((),c))
 (cond (Q4 .eql c.do' 1)
 ((Yl N (wrap .u64 v1.1) 1).bind fun v8=>
 cond (!(Nat.beq v8.length 0)) (cond (Nat.ble ((c.out.length+v8.length+4096) * 1) 17592186044416) (some ((),(⟨c.do',c.m,(c.out++(v8.map fun b=>(b.toNat:Int))),c.bad⟩:Qh))) none) none)
 (cond c.bad
 (some ((),(⟨c.do',c.m,c.out,true⟩:Qh)))
 (cond (Q4 .lss v1.1 0)
 (some ((),(⟨c.do',c.m,c.out,true⟩:Qh)))
 (some ((),(⟨c.do',c.m,c.out,(Q4 .geq v1.1 (Qi7 .i64 1 8))⟩:Qh)))))))
theorem Wv {N} {c} {r} (h:Y1 N c=some r):gU 276 (.ptr 0 0 :: []) (.cells (Q6t c 1) :: .cells (Wo (cI .u8) c.out) :: []) (.tuple []) (.cells (Q6t r.2 2) :: .dead :: .cells (Wo (cI .u8) r.2.out) :: []):=by
 refine Ul Z8w (Ls rfl) ?_;unfold Y1 at h;rw [cX] at h;refine cP h Q6o (.cons (Ar (.cons (.p _) p5)) .nil) fun v1 h=>?_;apply iU h<;>intro h
 ·obtain rfl:=Qn h;show Exists _;exact ⟨(rho [0,1,1]),Ya⟩
 refine Qa Z1f ?_;refine ifO h (fun hc4 h=>?_) (fun hc4 h=>?_)
 ·refine Qa Z1i ?_;refine Qa Qzo ?_;refine Qa Z17 ?_;refine cP h Q2i p1 fun v5 h=>?_;refine ifT hc4 ?_;refine Qa Z3k ?_;refine dF ?_;obtain rfl:=Qn h;show Exists _;exact ⟨(rho [0,1,1]),Ya⟩
 apply iU h<;>intro h
 ·refine Qp ?_;refine cD h Y7 p2 fun v8 h=>?_;refine Qbh (b:=v8) ?_;obtain ⟨hk10,h⟩:=Q59 h;refine ifF (Qyb hk10) ?_;obtain ⟨hk11,h⟩:=Q59 h;refine Q3b (Xk (c:=(cI .u8)) (e:=1) (l:=c.out) (fun _=>rfl) sd hk11) ?_;refine Un (c:=(cI .u8)) (l:=c.out) (v8.map fun b=>(b.toNat:Int)) rfl ?_;refine ifF hc4 ?_;obtain rfl:=Qn h;show Exists _;exact ⟨(rho [0,1,3]),Ya⟩
 refine Qp ?_;apply iU h<;>intro h
 ·refine ifF hc4 ?_;obtain rfl:=Qn h;show Exists _;exact ⟨(rho [0,1,1]),Ya⟩
 apply iU h<;>intro h
 ·refine ifF hc4 ?_;obtain rfl:=Qn h;show Exists _;exact ⟨(rho [0,1,1]),Ya⟩
 refine ifF hc4 ?_;obtain rfl:=Qn h;show Exists _;exact ⟨(rho [0,1,1]),Ya⟩
def X8 (_N:Nat) (c:Qh):Option ((Unit)×Qh):=
 cond (Q4 .eql c.do' 0)
 (some ((),(⟨c.do',(⟨c.m.Type',c.m.Flags,c.m.Gateway,c.m.Radius,c.m.Time,c.m.Timed,c.m.TopicID,c.m.MsgID,c.m.Code,c.m.Name,[]⟩:U2),c.out,c.bad⟩:Qh)))
 (cond (Q4 .eql c.do' 1)
 (cond (Nat.beq c.m.Data.length 0)
 (some ((),c))
 (cond (Nat.ble ((c.out.length+c.m.Data.length+4096) * 1) 17592186044416) (some ((),(⟨c.do',c.m,(c.out++(c.m.Data.map fun b=>(b.toNat:Int))),c.bad⟩:Qh))) none))
 (some ((),(⟨c.do',(⟨c.m.Type',c.m.Flags,c.m.Gateway,c.m.Radius,c.m.Time,c.m.Timed,c.m.TopicID,c.m.MsgID,c.m.Code,c.m.Name,[]⟩:U2),c.out,c.bad⟩:Qh))))
theorem Gr {N} {c} {r} (h:X8 N c=some r):gU 280 (.ptr 0 0 :: []) (.cells (Q6t c 1) :: .cells (Wo (cI .u8) c.out) :: []) (.tuple []) (.cells (Q6t r.2 2) :: .dead :: .cells (Wo (cI .u8) r.2.out) :: []):=by
 refine Ul Z8b (Ls rfl) ?_;unfold X8 at h;rw [cX] at h;refine Qa Z8i ?_;apply iU h<;>intro h
 ·refine Qp ?_;refine Q94 [] (r:=iI 0) rfl rfl (fun a ha o ho=>?_) (Qa Z91 ?_) ?_
  ·simp at ha
  ·refine Qa Z99 ?_;exact ⟨rfl,[],(Np _).symm⟩
  refine Q94 [] (r:=iS []) rfl rfl (fun a ha o ho=>?_) (Qa Qzo ?_) ?_
  ·simp at ha
  ·refine Qa Z17 ?_;exact ⟨rfl,[],(Np _).symm⟩
  obtain rfl:=Qn h;show Exists _;exact ⟨(rho [0,1,1]),Ya⟩
 apply iU h<;>intro h
 ·refine Qp ?_;refine Qbh (b:=c.m.Data) ?_;apply iU h<;>intro h
  ·obtain rfl:=Qn h;show Exists _;exact ⟨(rho [0,1,1]),Ya⟩
  obtain ⟨hk4,h⟩:=Q59 h;refine Q3b (Xk (c:=(cI .u8)) (e:=1) (l:=c.out) (fun _=>rfl) sd hk4) ?_;refine Un (c:=(cI .u8)) (l:=c.out) (c.m.Data.map fun b=>(b.toNat:Int)) rfl ?_;obtain rfl:=Qn h;show Exists _;exact ⟨(rho [0,1,2]),Ya⟩
 obtain rfl:=Qn h;show Exists _;exact ⟨(rho [0,1,1]),Ya⟩
def Yx (N:Nat) (c:Qh):Option ((Unit)×Qh):=
 cond (Q4 .eql c.do' 0)
 ((Q0x N []).bind fun v2=>
 some ((),(⟨c.do',(⟨c.m.Type',c.m.Flags,c.m.Gateway,c.m.Radius,c.m.Time,c.m.Timed,(wrap .i64 v2),c.m.MsgID,c.m.Code,c.m.Name,c.m.Data⟩:U2),c.out,c.bad⟩:Qh)))
 (cond (Q4 .eql c.do' 1)
 ((Yl N (wrap .u64 c.m.TopicID) 2).bind fun v5=>
 cond (!(Nat.beq v5.length 0)) (cond (Nat.ble ((c.out.length+v5.length+4096) * 1) 17592186044416) (some ((),(⟨c.do',c.m,(c.out++(v5.map fun b=>(b.toNat:Int))),c.bad⟩:Qh))) none) none)
 (cond c.bad
 (some ((),(⟨c.do',(⟨c.m.Type',c.m.Flags,c.m.Gateway,c.m.Radius,c.m.Time,c.m.Timed,0,c.m.MsgID,c.m.Code,c.m.Name,c.m.Data⟩:U2),c.out,true⟩:Qh)))
 (cond (Q4 .lss c.m.TopicID 0)
 (some ((),(⟨c.do',(⟨c.m.Type',c.m.Flags,c.m.Gateway,c.m.Radius,c.m.Time,c.m.Timed,0,c.m.MsgID,c.m.Code,c.m.Name,c.m.Data⟩:U2),c.out,true⟩:Qh)))
 (some ((),(⟨c.do',(⟨c.m.Type',c.m.Flags,c.m.Gateway,c.m.Radius,c.m.Time,c.m.Timed,0,c.m.MsgID,c.m.Code,c.m.Name,c.m.Data⟩:U2),c.out,(Q4 .geq c.m.TopicID (Qi7 .i64 1 16))⟩:Qh))))))
theorem Ub {N} {c} {r} (h:Yx N c=some r):gU 281 (.ptr 0 0 :: []) (.cells (Q6t c 1) :: .cells (Wo (cI .u8) c.out) :: []) (.tuple []) (.cells (Q6t r.2 2) :: .dead :: .cells (Wo (cI .u8) r.2.out) :: []):=by
 refine Ul Zcp (Ls rfl) ?_;unfold Yx at h;rw [cX] at h;refine Qa Z1f ?_;apply iU h<;>intro h
 ·refine Qa Z1i ?_;refine Qa Qzo ?_;refine Qa Z17 ?_;refine cP h Q2i p1 fun v2 h=>?_;obtain rfl:=Qn h;show Exists _;exact ⟨(rho [0,1,1]),Ya⟩
 apply iU h<;>intro h
 ·refine Qp ?_;refine cD h Y7 p2 fun v5 h=>?_;refine Qbh (b:=v5) ?_;obtain ⟨hk7,h⟩:=Q59 h;refine ifF (Qyb hk7) ?_;obtain ⟨hk8,h⟩:=Q59 h;refine Q3b (Xk (c:=(cI .u8)) (e:=1) (l:=c.out) (fun _=>rfl) sd hk8) ?_;refine Un (c:=(cI .u8)) (l:=c.out) (v5.map fun b=>(b.toNat:Int)) rfl ?_;obtain rfl:=Qn h;show Exists _;exact ⟨(rho [0,1,2]),Ya⟩
 refine Qp ?_;apply iU h<;>intro h
 ·obtain rfl:=Qn h;show Exists _;exact ⟨(rho [0,1,1]),Ya⟩
 apply iU h<;>intro h
 ·obtain rfl:=Qn h;show Exists _;exact ⟨(rho [0,1,1]),Ya⟩
 obtain rfl:=Qn h;show Exists _;exact ⟨(rho [0,1,1]),Ya⟩
def Z4 (N:Nat) (c:Qh):Option ((Unit)×Qh):=
 cond (Q4 .eql c.do' 0)
 ((Q0x N []).bind fun v2=>
 some ((),(⟨c.do',(⟨c.m.Type',c.m.Flags,c.m.Gateway,c.m.Radius,c.m.Time,c.m.Timed,c.m.TopicID,(wrap .i64 v2),c.m.Code,c.m.Name,c.m.Data⟩:U2),c.out,c.bad⟩:Qh)))
 (cond (Q4 .eql c.do' 1)
 ((Yl N (wrap .u64 c.m.MsgID) 2).bind fun v5=>
 cond (!(Nat.beq v5.length 0)) (cond (Nat.ble ((c.out.length+v5.length+4096) * 1) 17592186044416) (some ((),(⟨c.do',c.m,(c.out++(v5.map fun b=>(b.toNat:Int))),c.bad⟩:Qh))) none) none)
 (cond c.bad
 (some ((),(⟨c.do',(⟨c.m.Type',c.m.Flags,c.m.Gateway,c.m.Radius,c.m.Time,c.m.Timed,c.m.TopicID,0,c.m.Code,c.m.Name,c.m.Data⟩:U2),c.out,true⟩:Qh)))
 (cond (Q4 .lss c.m.MsgID 0)
 (some ((),(⟨c.do',(⟨c.m.Type',c.m.Flags,c.m.Gateway,c.m.Radius,c.m.Time,c.m.Timed,c.m.TopicID,0,c.m.Code,c.m.Name,c.m.Data⟩:U2),c.out,true⟩:Qh)))
 (some ((),(⟨c.do',(⟨c.m.Type',c.m.Flags,c.m.Gateway,c.m.Radius,c.m.Time,c.m.Timed,c.m.TopicID,0,c.m.Code,c.m.Name,c.m.Data⟩:U2),c.out,(Q4 .geq c.m.MsgID (Qi7 .i64 1 16))⟩:Qh))))))
theorem Zt {N} {c} {r} (h:Z4 N c=some r):gU 282 (.ptr 0 0 :: []) (.cells (Q6t c 1) :: .cells (Wo (cI .u8) c.out) :: []) (.tuple []) (.cells (Q6t r.2 2) :: .dead :: .cells (Wo (cI .u8) r.2.out) :: []):=by
 refine Ul Z9w (Ls rfl) ?_;unfold Z4 at h;rw [cX] at h;refine Qa Z1f ?_;apply iU h<;>intro h
 ·refine Qa Z1i ?_;refine Qa Qzo ?_;refine Qa Z17 ?_;refine cP h Q2i p1 fun v2 h=>?_;obtain rfl:=Qn h;show Exists _;exact ⟨(rho [0,1,1]),Ya⟩
 apply iU h<;>intro h
 ·refine Qp ?_;refine cD h Y7 p2 fun v5 h=>?_;refine Qbh (b:=v5) ?_;obtain ⟨hk7,h⟩:=Q59 h;refine ifF (Qyb hk7) ?_;obtain ⟨hk8,h⟩:=Q59 h;refine Q3b (Xk (c:=(cI .u8)) (e:=1) (l:=c.out) (fun _=>rfl) sd hk8) ?_;refine Un (c:=(cI .u8)) (l:=c.out) (v5.map fun b=>(b.toNat:Int)) rfl ?_;obtain rfl:=Qn h;show Exists _;exact ⟨(rho [0,1,2]),Ya⟩
 refine Qp ?_;apply iU h<;>intro h
 ·obtain rfl:=Qn h;show Exists _;exact ⟨(rho [0,1,1]),Ya⟩
 apply iU h<;>intro h
 ·obtain rfl:=Qn h;show Exists _;exact ⟨(rho [0,1,1]),Ya⟩
 obtain rfl:=Qn h;show Exists _;exact ⟨(rho [0,1,1]),Ya⟩
def Vi (N:Nat) (c:Qh):Nat→Option ((Unit)×Qh)
 | 0=>none
 | n+1=>
  some ((),c)
def Yp (N:Nat) (c:Qh):Option ((Unit)×Qh):=
 cond (Q4 .eql c.m.Type' 0)
 (none)
 (cond (Q4 .eql c.m.Type' 1)
 (none)
 (cond (Q4 .eql c.m.Type' 2)
 (none)
 (cond (Q4 .eql c.m.Type' 4)
 ((Y1 N c).bind fun v5=>
 none)
 (cond (Q4 .eql c.m.Type' 5)
 (none)
 (cond (Q4 .eql c.m.Type' 27)
 (none)
 (cond (Q4 .eql c.m.Type' 29)
 (none)
 (cond (Q4 .eql c.m.Type' 7)
 (none)
 (cond (Q4 .eql c.m.Type' 26)
 (none)
 (cond (Q4 .eql c.m.Type' 9)
 ((X8 N c).bind fun v13=>
 some ((),v13.2))
 (cond (Q4 .eql c.m.Type' 28)
 ((X8 N c).bind fun v16=>
 some ((),v16.2))
 (cond (Q4 .eql c.m.Type' 10)
 ((Yx N c).bind fun v19=>
 (Z4 N v19.2).bind fun v21=>
 none)
 (cond (Q4 .eql c.m.Type' 11)
 ((Yx N c).bind fun v24=>
 (Z4 N v24.2).bind fun v26=>
 none)
 (cond (Q4 .eql c.m.Type' 13)
 ((Yx N c).bind fun v29=>
 (Z4 N v29.2).bind fun v31=>
 none)
 (cond (Q4 .eql c.m.Type' 12)
 ((Y1 N c).bind fun v34=>
 (Yx N v34.2).bind fun v36=>
 (Z4 N v36.2).bind fun v38=>
 (X8 N v38.2).bind fun v40=>
 some ((),v40.2))
 (cond (Q4 .eql c.m.Type' 14)
 ((Z4 N c).bind fun v43=>
 some ((),v43.2))
 (cond (Q4 .eql c.m.Type' 15)
 ((Z4 N c).bind fun v46=>
 some ((),v46.2))
 (cond (Q4 .eql c.m.Type' 16)
 ((Z4 N c).bind fun v49=>
 some ((),v49.2))
 (cond (Q4 .eql c.m.Type' 21)
 ((Z4 N c).bind fun v52=>
 some ((),v52.2))
 (cond (Q4 .eql c.m.Type' 18)
 ((Y1 N c).bind fun v55=>
 (Z4 N v55.2).bind fun v57=>
 none)
 (cond (Q4 .eql c.m.Type' 20)
 ((Y1 N c).bind fun v60=>
 (Z4 N v60.2).bind fun v62=>
 none)
 (cond (Q4 .eql c.m.Type' 19)
 ((Y1 N c).bind fun v65=>
 (Yx N v65.2).bind fun v67=>
 (Z4 N v67.2).bind fun v69=>
 none)
 (cond (Q4 .eql c.m.Type' 22)
 (none)
 (cond (Q4 .eql c.m.Type' 24)
 (none)
 (Vi N c N))))))))))))))))))))))))
theorem Vo {N} {c} {r} (h:Yp N c=some r):gU 220 (.ptr 0 0 :: []) (.cells (Q6t c 1) :: .cells (Wo (cI .u8) c.out) :: []) (.tuple []) (.cells (Q6t r.2 2) :: .dead :: .cells (Wo (cI .u8) r.2.out) :: []):=by
 refine Ul Z66 (Ls rfl) ?_;unfold Yp at h;rw [cX] at h;refine Qa Zb7 ?_;apply iU h<;>intro h
 ·refine Z1 2 ?_;refine dT ?_
  first | (cases h;done) | (simp [Ut] at h;done)
 apply iU h<;>intro h
 ·refine Z1 2 ?_;refine dT ?_
  first | (cases h;done) | (simp [Ut] at h;done)
 apply iU h<;>intro h
 ·refine Z1 2 ?_;refine dT ?_
  first | (cases h;done) | (simp [Ut] at h;done)
 apply iU h<;>intro h
 ·refine Z1 3 ?_;refine dT ?_;refine cG h Wv fun v5 h=>?_;refine ⟨rho [0,1],(.cells (Q6t v5.2 3) :: .dead :: .cells (.func (.func 276) [.ptr 0 0] [] :: .func (.func 277) [.ptr 0 0] [] :: .func (.func 273) [.ptr 0 0] [] :: .func (.func 275) [.ptr 0 0] [] :: []) :: .cells (Wo (cI .u8) v5.2.out) :: []),.tuple [],gcQ,?_⟩;refine dT ?_
  first | (cases h;done) | (simp [Ut] at h;done)
 refine ifO h (fun hc7 h=>?_) (fun hc7 h=>?_)
 ·refine ifT hc7 ?_;refine Z1 2 ?_;refine dT ?_
  first | (cases h;done) | (simp [Ut] at h;done)
 refine ifO h (fun hc8 h=>?_) (fun hc8 h=>?_)
 ·refine ifT hc8 ?_;refine Z1 2 ?_;refine dT ?_
  first | (cases h;done) | (simp [Ut] at h;done)
 apply iU h<;>intro h
 ·refine Z1 2 ?_;refine dT ?_
  first | (cases h;done) | (simp [Ut] at h;done)
 refine ifO h (fun hc10 h=>?_) (fun hc10 h=>?_)
 ·refine ifT hc10 ?_;refine Z1 2 ?_;refine dT ?_
  first | (cases h;done) | (simp [Ut] at h;done)
 apply iU h<;>intro h
 ·refine Z1 2 ?_;refine dT ?_
  first | (cases h;done) | (simp [Ut] at h;done)
 refine ifO h (fun hc12 h=>?_) (fun hc12 h=>?_)
 ·refine ifT hc12 ?_;refine Z1 3 ?_;refine dT ?_;refine cG h Gr fun v13 h=>?_;refine ⟨rho [0,1],(.cells (Q6t v13.2 3) :: .dead :: .cells (.func (.func 280) [.ptr 0 0] [] :: []) :: .cells (Wo (cI .u8) v13.2.out) :: []),.tuple [],gcQ,?_⟩;refine dF ?_;obtain rfl:=Qn h;show Exists _;exact ⟨(rho [0,1,3]),Ya⟩
 apply iU h<;>intro h
 ·refine Z1 3 ?_;refine dT ?_;refine cG h Gr fun v16 h=>?_;refine ⟨rho [0,1],(.cells (Q6t v16.2 3) :: .dead :: .cells (.func (.func 280) [.ptr 0 0] [] :: []) :: .cells (Wo (cI .u8) v16.2.out) :: []),.tuple [],gcQ,?_⟩;refine dF ?_;obtain rfl:=Qn h;show Exists _;exact ⟨(rho [0,1,3]),Ya⟩
 apply iU h<;>intro h
 ·refine Z1 4 ?_;refine dT ?_;refine cG h Ub fun v19 h=>?_;refine ⟨rho [0,1],(.cells (Q6t v19.2 3) :: .dead :: .cells (.func (.func 281) [.ptr 0 0] [] :: .func (.func 282) [.ptr 0 0] [] :: .func (.func 275) [.ptr 0 0] [] :: []) :: .cells (Wo (cI .u8) v19.2.out) :: []),.tuple [],gcQ,?_⟩;refine dT ?_;refine cG h Zt fun v21 h=>?_;refine ⟨rho [0,3],(.cells (Q6t v21.2 4) :: .dead :: .cells (.func (.func 281) [.ptr 0 0] [] :: .func (.func 282) [.ptr 0 0] [] :: .func (.func 275) [.ptr 0 0] [] :: []) :: .dead :: .cells (Wo (cI .u8) v21.2.out) :: []),.tuple [],gcQ,?_⟩;refine dT ?_
  first | (cases h;done) | (simp [Ut] at h;done)
 refine ifO h (fun hc23 h=>?_) (fun hc23 h=>?_)
 ·refine ifT hc23 ?_;refine Z1 4 ?_;refine dT ?_;refine cG h Ub fun v24 h=>?_;refine ⟨rho [0,1],(.cells (Q6t v24.2 3) :: .dead :: .cells (.func (.func 281) [.ptr 0 0] [] :: .func (.func 282) [.ptr 0 0] [] :: .func (.func 278) [.ptr 0 0] [] :: []) :: .cells (Wo (cI .u8) v24.2.out) :: []),.tuple [],gcQ,?_⟩;refine dT ?_;refine cG h Zt fun v26 h=>?_;refine ⟨rho [0,3],(.cells (Q6t v26.2 4) :: .dead :: .cells (.func (.func 281) [.ptr 0 0] [] :: .func (.func 282) [.ptr 0 0] [] :: .func (.func 278) [.ptr 0 0] [] :: []) :: .dead :: .cells (Wo (cI .u8) v26.2.out) :: []),.tuple [],gcQ,?_⟩;refine dT ?_
  first | (cases h;done) | (simp [Ut] at h;done)
 apply iU h<;>intro h
 ·refine Z1 4 ?_;refine dT ?_;refine cG h Ub fun v29 h=>?_;refine ⟨rho [0,1],(.cells (Q6t v29.2 3) :: .dead :: .cells (.func (.func 281) [.ptr 0 0] [] :: .func (.func 282) [.ptr 0 0] [] :: .func (.func 278) [.ptr 0 0] [] :: []) :: .cells (Wo (cI .u8) v29.2.out) :: []),.tuple [],gcQ,?_⟩;refine dT ?_;refine cG h Zt fun v31 h=>?_;refine ⟨rho [0,3],(.cells (Q6t v31.2 4) :: .dead :: .cells (.func (.func 281) [.ptr 0 0] [] :: .func (.func 282) [.ptr 0 0] [] :: .func (.func 278) [.ptr 0 0] [] :: []) :: .dead :: .cells (Wo (cI .u8) v31.2.out) :: []),.tuple [],gcQ,?_⟩;refine dT ?_
  first | (cases h;done) | (simp [Ut] at h;done)
 apply iU h<;>intro h
 ·refine Z1 6 ?_;refine dT ?_;refine cG h Wv fun v34 h=>?_;refine ⟨rho [0,1],(.cells (Q6t v34.2 3) :: .dead :: .cells (.func (.func 276) [.ptr 0 0] [] :: .func (.func 281) [.ptr 0 0] [] :: .func (.func 282) [.ptr 0 0] [] :: .func (.func 280) [.ptr 0 0] [] :: []) :: .cells (Wo (cI .u8) v34.2.out) :: []),.tuple [],gcQ,?_⟩;refine dT ?_;refine cG h Ub fun v36 h=>?_;refine ⟨rho [0,3],(.cells (Q6t v36.2 4) :: .dead :: .cells (.func (.func 276) [.ptr 0 0] [] :: .func (.func 281) [.ptr 0 0] [] :: .func (.func 282) [.ptr 0 0] [] :: .func (.func 280) [.ptr 0 0] [] :: []) :: .dead :: .cells (Wo (cI .u8) v36.2.out) :: []),.tuple [],gcQ,?_⟩;refine dT ?_;refine cG h Zt fun v38 h=>?_;refine ⟨rho [0,4],(.cells (Q6t v38.2 5) :: .dead :: .cells (.func (.func 276) [.ptr 0 0] [] :: .func (.func 281) [.ptr 0 0] [] :: .func (.func 282) [.ptr 0 0] [] :: .func (.func 280) [.ptr 0 0] [] :: []) :: .dead :: .dead :: .cells (Wo (cI .u8) v38.2.out) :: []),.tuple [],gcQ,?_⟩;refine dT ?_;refine cG h Gr fun v40 h=>?_;refine ⟨rho [0,5],(.cells (Q6t v40.2 6) :: .dead :: .cells (.func (.func 276) [.ptr 0 0] [] :: .func (.func 281) [.ptr 0 0] [] :: .func (.func 282) [.ptr 0 0] [] :: .func (.func 280) [.ptr 0 0] [] :: []) :: .dead :: .dead :: .dead :: .cells (Wo (cI .u8) v40.2.out) :: []),.tuple [],gcQ,?_⟩;refine dF ?_;obtain rfl:=Qn h;show Exists _;exact ⟨(rho [0,1,6]),Ya⟩
 refine ifO h (fun hc42 h=>?_) (fun hc42 h=>?_)
 ·refine ifT hc42 ?_;refine Z1 3 ?_;refine dT ?_;refine cG h Zt fun v43 h=>?_;refine ⟨rho [0,1],(.cells (Q6t v43.2 3) :: .dead :: .cells (.func (.func 282) [.ptr 0 0] [] :: []) :: .cells (Wo (cI .u8) v43.2.out) :: []),.tuple [],gcQ,?_⟩;refine dF ?_;obtain rfl:=Qn h;show Exists _;exact ⟨(rho [0,1,3]),Ya⟩
 refine ifO h (fun hc45 h=>?_) (fun hc45 h=>?_)
 ·refine ifT hc45 ?_;refine Z1 3 ?_;refine dT ?_;refine cG h Zt fun v46 h=>?_;refine ⟨rho [0,1],(.cells (Q6t v46.2 3) :: .dead :: .cells (.func (.func 282) [.ptr 0 0] [] :: []) :: .cells (Wo (cI .u8) v46.2.out) :: []),.tuple [],gcQ,?_⟩;refine dF ?_;obtain rfl:=Qn h;show Exists _;exact ⟨(rho [0,1,3]),Ya⟩
 refine ifO h (fun hc48 h=>?_) (fun hc48 h=>?_)
 ·refine ifT hc48 ?_;refine Z1 3 ?_;refine dT ?_;refine cG h Zt fun v49 h=>?_;refine ⟨rho [0,1],(.cells (Q6t v49.2 3) :: .dead :: .cells (.func (.func 282) [.ptr 0 0] [] :: []) :: .cells (Wo (cI .u8) v49.2.out) :: []),.tuple [],gcQ,?_⟩;refine dF ?_;obtain rfl:=Qn h;show Exists _;exact ⟨(rho [0,1,3]),Ya⟩
 apply iU h<;>intro h
 ·refine Z1 3 ?_;refine dT ?_;refine cG h Zt fun v52 h=>?_;refine ⟨rho [0,1],(.cells (Q6t v52.2 3) :: .dead :: .cells (.func (.func 282) [.ptr 0 0] [] :: []) :: .cells (Wo (cI .u8) v52.2.out) :: []),.tuple [],gcQ,?_⟩;refine dF ?_;obtain rfl:=Qn h;show Exists _;exact ⟨(rho [0,1,3]),Ya⟩
 refine ifO h (fun hc54 h=>?_) (fun hc54 h=>?_)
 ·refine ifT hc54 ?_;refine Z1 4 ?_;refine dT ?_;refine cG h Wv fun v55 h=>?_;refine ⟨rho [0,1],(.cells (Q6t v55.2 3) :: .dead :: .cells (.func (.func 276) [.ptr 0 0] [] :: .func (.func 282) [.ptr 0 0] [] :: .func (.func 283) [.ptr 0 0] [] :: []) :: .cells (Wo (cI .u8) v55.2.out) :: []),.tuple [],gcQ,?_⟩;refine dT ?_;refine cG h Zt fun v57 h=>?_;refine ⟨rho [0,3],(.cells (Q6t v57.2 4) :: .dead :: .cells (.func (.func 276) [.ptr 0 0] [] :: .func (.func 282) [.ptr 0 0] [] :: .func (.func 283) [.ptr 0 0] [] :: []) :: .dead :: .cells (Wo (cI .u8) v57.2.out) :: []),.tuple [],gcQ,?_⟩;refine dT ?_
  first | (cases h;done) | (simp [Ut] at h;done)
 apply iU h<;>intro h
 ·refine Z1 4 ?_;refine dT ?_;refine cG h Wv fun v60 h=>?_;refine ⟨rho [0,1],(.cells (Q6t v60.2 3) :: .dead :: .cells (.func (.func 276) [.ptr 0 0] [] :: .func (.func 282) [.ptr 0 0] [] :: .func (.func 283) [.ptr 0 0] [] :: []) :: .cells (Wo (cI .u8) v60.2.out) :: []),.tuple [],gcQ,?_⟩;refine dT ?_;refine cG h Zt fun v62 h=>?_;refine ⟨rho [0,3],(.cells (Q6t v62.2 4) :: .dead :: .cells (.func (.func 276) [.ptr 0 0] [] :: .func (.func 282) [.ptr 0 0] [] :: .func (.func 283) [.ptr 0 0] [] :: []) :: .dead :: .cells (Wo (cI .u8) v62.2.out) :: []),.tuple [],gcQ,?_⟩;refine dT ?_
  first | (cases h;done) | (simp [Ut] at h;done)
 apply iU h<;>intro h
 ·refine Z1 5 ?_;refine dT ?_;refine cG h Wv fun v65 h=>?_;refine ⟨rho [0,1],(.cells (Q6t v65.2 3) :: .dead :: .cells (.func (.func 276) [.ptr 0 0] [] :: .func (.func 281) [.ptr 0 0] [] :: .func (.func 282) [.ptr 0 0] [] :: .func (.func 278) [.ptr 0 0] [] :: []) :: .cells (Wo (cI .u8) v65.2.out) :: []),.tuple [],gcQ,?_⟩;refine dT ?_;refine cG h Ub fun v67 h=>?_;refine ⟨rho [0,3],(.cells (Q6t v67.2 4) :: .dead :: .cells (.func (.func 276) [.ptr 0 0] [] :: .func (.func 281) [.ptr 0 0] [] :: .func (.func 282) [.ptr 0 0] [] :: .func (.func 278) [.ptr 0 0] [] :: []) :: .dead :: .cells (Wo (cI .u8) v67.2.out) :: []),.tuple [],gcQ,?_⟩;refine dT ?_;refine cG h Zt fun v69 h=>?_;refine ⟨rho [0,4],(.cells (Q6t v69.2 5) :: .dead :: .cells (.func (.func 276) [.ptr 0 0] [] :: .func (.func 281) [.ptr 0 0] [] :: .func (.func 282) [.ptr 0 0] [] :: .func (.func 278) [.ptr 0 0] [] :: []) :: .dead :: .dead :: .cells (Wo (cI .u8) v69.2.out) :: []),.tuple [],gcQ,?_⟩;refine dT ?_
  first | (cases h;done) | (simp [Ut] at h;done)
 apply iU h<;>intro h
 ·refine Z1 2 ?_;refine dT ?_
  first | (cases h;done) | (simp [Ut] at h;done)
 apply iU h<;>intro h
 ·refine Z1 2 ?_;refine dT ?_
  first | (cases h;done) | (simp [Ut] at h;done)
 refine lpH (τ:=Unit) (fun _=>(a4 (.any :: .p .nilSlice::iI 0::iI 0::a4 (a2 ([]))):List AV)) (fun n0 ⟨⟩=>Vi N c n0) () h fun n0 ⟨⟩ h=>?_
 first | rw [Vi] at h | simp only [Vi] at h
 refine dF ?_;obtain rfl:=Qn h;show Exists _;exact ⟨(rho [0,1,1]),Ya⟩
def Jk (N:Nat) (m:U2):Option (List UInt8):=
 (Yp N (⟨1,m,[],false⟩:Qh)).bind fun v1=>
 some (v1.2.out.map fun n=>UInt8.ofNat n.toNat)
theorem Q1v {N} {m} {r} (h:Jk N m=some r):pU 196 [.agg (U2.cells m)] (.str r):=by
 refine Q2 Zb9 ?_;unfold Jk at h;refine cG h Vo fun v1 h=>?_;refine ⟨rho [1,3],(.cells (Qfl m ([])) :: .cells (Q6t v1.2 2) :: .cells (Wo (cI .u8) v1.2.out) :: []),.tuple [],⟨(rE rfl <| rN),(hC rfl (rE rfl <| rE rfl <| rE rfl <| rE rfl <| rE rfl <| rE rfl <| rE rfl <| rE rfl <| rE rfl <| rE rfl <| rE rfl <| rE rfl <| rE rfl <| rE rfl <| rE rfl <| rE rfl <| rE rfl <| rE rfl <| rS <| rE rfl <| rN) <| hV lb <| hN),rfl,rfl,(roE rfl <| roE (Js _ _ _) <| roN),rfl,(fK rfl rfl <| fR 0 rfl rfl rfl rfl <| fO 2 rfl rfl rfl <| fN),rfl⟩,?_⟩;refine Qdz (l:=v1.2.out) (n:=v1.2.out.length) sd ?_;cases h;exact (.p _)
def Ga (_N:Nat) (kind:Int):Option Bool:=
 cond (Q4 .eql kind 3)
 (some false)
 (cond (Q4 .eql kind 17)
 (some false)
 (cond (Q4 .eql kind 25)
 (some false)
 (cond (Q4 .eql kind 254)
 (some true)
 (cond (Q4 .geq kind 0)
 (some (Q4 .leq kind 29))
 (some false)))))
theorem Q5h {N} {kind} {r} (h:Ga N kind=some r):pU 224 [.int .i64 kind] (.bool r):=by
 refine Q2 Zae ?_;unfold Ga at h;rw [cX] at h;refine ifO h (fun hc1 h=>?_) (fun hc1 h=>?_)
 ·refine ifT hc1 ?_;cases h;exact (.p _)
 refine ifO h (fun hc2 h=>?_) (fun hc2 h=>?_)
 ·refine ifT hc2 ?_;cases h;exact (.p _)
 refine iL h fun h=>?_;refine iL h fun h=>?_;exact iB h
def V6 (N:Nat) (kind:Int) (rest:Int):Option ((List UInt8)×Int):=
 (Ga N kind).bind fun v1=>
 cond (!v1)
 (some ([],8))
 (cond (Q4 .lss rest 0)
 (some ([],2))
 (cond (Q4 .gtr rest 65531)
 (some ([],4))
 (cond (Q4 .leq (wrap .i64 (rest+2)) 255)
 ((Yl N (wrap .u64 (wrap .i64 (rest+2))) 1).bind fun v7=>
 (Yl N (wrap .u64 kind) 1).bind fun v9=>
 cond (Nat.ble (v7.length+v9.length) 4611686018427387904) (some ((v7++v9),0)) none)
 ((Yl N 1 1).bind fun v12=>
 (Yl N (wrap .u64 (wrap .i64 (rest+4))) 2).bind fun v14=>
 cond (Nat.ble (v12.length+v14.length) 4611686018427387904) ((Yl N (wrap .u64 kind) 1).bind fun v17=>
 cond (Nat.ble ((v12++v14).length+v17.length) 4611686018427387904) (some (((v12++v14)++v17),0)) none) none))))
theorem Q0b {N} {kind} {rest} {r} (h:V6 N kind rest=some r):pU 197 [.int .i64 kind,.int .i64 rest] (.tuple [.str r.1,.int .i64 r.2]):=by
 refine Q2 Zdh ?_;unfold V6 at h;rw [cX] at h;refine cP h Q5h p1 fun v1 h=>?_;refine iL2 h fun h=>?_;refine iL2 h fun h=>?_;refine iL2 h fun h=>?_;apply iU h<;>intro h
 ·refine cP h Y7 p2 fun v7 h=>?_;refine cP h Y7 p2 fun v9 h=>?_;refine kU h fun h=>?_;obtain rfl:=Qn h;exact u2
 refine cP h Y7 p2 fun v12 h=>?_;refine cP h Y7 p2 fun v14 h=>?_;refine kU h fun h=>?_;refine cP h Y7 p2 fun v17 h=>?_;refine kU h fun h=>?_;obtain rfl:=Qn h;exact u2
def Q1l (N:Nat) (kind:Int):Option Bool:=
 (Ga N kind).bind fun v1=>
 cond v1
 (some (Q4 .neq kind 254))
 (some false)
theorem Q9f {N} {kind} {r} (h:Q1l N kind=some r):pU 217 [.int .i64 kind] (.bool r):=by
 refine Q2 Z42 ?_;unfold Q1l at h;rw [cX] at h;refine cP h Q5h p1 fun v1 h=>?_;exact iB h
def Q1f (_N:Nat) (kind:Int):Option (Qz):=
 cond (Q4 .eql kind 4)
 (some (⟨false,0,false,true,true,0⟩:Qz))
 (cond (Q4 .eql kind 7)
 (some (⟨false,1,true,false,false,0⟩:Qz))
 (cond (Q4 .eql kind 26)
 (some (⟨false,1,true,false,false,0⟩:Qz))
 (cond (Q4 .eql kind 19)
 (some (⟨false,1,false,false,false,0⟩:Qz))
 (cond (Q4 .eql kind 12)
 (some (⟨true,1,true,false,false,1⟩:Qz))
 (cond (Q4 .eql kind 18)
 (some (⟨true,1,false,false,false,1⟩:Qz))
 (cond (Q4 .eql kind 20)
 (some (⟨false,0,false,false,false,1⟩:Qz))
 (some (⟨false,0,false,false,false,0⟩:Qz))))))))
theorem Qbx {N} {kind} {r} (h:Q1f N kind=some r):pU 249 [.int .i64 kind] (.agg (Qz.cells r)):=by
 refine Q2 Zca ?_;unfold Q1f at h;rw [cX] at h;apply iU h<;>intro h
 ·show Frz _ _ _ _;obtain rfl:=Qn h;exact (Ar (.cons (.p _) p5))
 refine ifO h (fun hc2 h=>?_) (fun hc2 h=>?_)
 ·refine ifT hc2 ?_;show Frz _ _ _ _;obtain rfl:=Qn h;exact (Ar (.cons (.p _) p5))
 apply iU h<;>intro h
 ·show Frz _ _ _ _;obtain rfl:=Qn h;exact (Ar (.cons (.p _) p5))
 apply iU h<;>intro h
 ·show Frz _ _ _ _;obtain rfl:=Qn h;exact (Ar (.cons (.p _) p5))
 apply iU h<;>intro h
 ·show Frz _ _ _ _;obtain rfl:=Qn h;exact (Ar (.cons (.p _) p5))
 apply iU h<;>intro h
 ·show Frz _ _ _ _;obtain rfl:=Qn h;exact (Ar (.cons (.p _) p5))
 apply iU h<;>intro h
 ·show Frz _ _ _ _;obtain rfl:=Qn h;exact (Ar (.cons (.p _) p5))
 show Frz _ _ _ _;obtain rfl:=Qn h;exact (Ar (.cons (.p _) p5))
def Gk (_N:Nat) (c15:Bool) (c18:Int) (c21:Bool) (c24:Bool) (c27:Bool) (c30:Int):Option Bool:=
 some (((c15:Bool) == false)&&(((c18:Int) == 0)&&(((c21:Bool) == false)&&(((c24:Bool) == false)&&(((c27:Bool) == false)&&(((c30:Int) == 0)&&true))))))
def Gt (N:Nat) (f:Qz) (v12:Qz) (c15:Bool) (c18:Int) (c21:Bool) (c24:Bool) (c27:Bool):Option Bool:=
 cond (Q4 .eql v12.Type' 1)
 (Gk N c15 c18 c21 c24 c27 0)
 (Gk N c15 c18 c21 c24 c27 f.Type')
def Gs (N:Nat) (f:Qz) (v12:Qz) (c15:Bool) (c18:Int) (c21:Bool) (c24:Bool):Option Bool:=
 cond v12.Clean
 (Gt N f v12 c15 c18 c21 c24 false)
 (Gt N f v12 c15 c18 c21 c24 f.Clean)
def Q02 (N:Nat) (f:Qz) (v12:Qz) (c15:Bool) (c18:Int) (c21:Bool):Option Bool:=
 cond v12.Will
 (Gs N f v12 c15 c18 c21 false)
 (Gs N f v12 c15 c18 c21 f.Will)
def Q05 (N:Nat) (f:Qz) (v12:Qz) (c15:Bool) (c18:Int):Option Bool:=
 cond v12.Retain
 (Q02 N f v12 c15 c18 false)
 (Q02 N f v12 c15 c18 f.Retain)
def Gw (N:Nat) (f:Qz) (v12:Qz) (c15:Bool):Option Bool:=
 cond (Q4 .eql v12.QoS 1)
 (Q05 N f v12 c15 0)
 (Q05 N f v12 c15 f.QoS)
def Q04 (N:Nat) (kind:Int) (f:Qz) (s9:Bool):Option Bool:=
 cond s9
 (some false)
 ((Q1f N kind).bind fun v12=>
 cond v12.Dup
 (Gw N f v12 false)
 (Gw N f v12 f.Dup))
def Q4k (N:Nat) (kind:Int) (f:Qz):Option Bool:=
 (Q0a N f).bind fun v1=>
 cond (Q4 .neq v1.2 0)
 (some false)
 (cond (Q4 .lss f.QoS 0)
 (Q04 N kind f (Q4 .neq kind 12))
 (Q04 N kind f false))
theorem Qet {N} {kind} {f} {r} (h:Q4k N kind f=some r):pU 218 [.int .i64 kind,.agg (Qz.cells f)] (.bool r):=by
 refine Q2 Z7h ?_;unfold Q4k at h;rw [cX] at h;refine cP h Q6o (.cons (Ar (.cons (.p _) p5)) .nil) fun v1 h=>?_;refine iL h fun h=>?_;refine Q4e ?_;refine jrH (r:=r) (σ:=Bool) (fun s9=>(iI kind :: .any :: .any :: .ptr 0 0::a16 (.any :: .p (.bool s9)::a16 (a8 (.any :: []))):List AV)) (fun s9=>Q04 N kind f s9) ?_ ?_
 ·apply iU h<;>intro h
  ·show Exists _;exact ⟨((Qi3 .neq kind 12)),h,(fun i=>i),Ya⟩
  show Exists _;exact ⟨(false),h,(fun i=>i),Ya⟩
 rintro s9 h
 unfold Q04 at h;refine iL h fun h=>?_;refine cP h Qbx p1 fun v12 h=>?_;refine jrA (r:=r) (σ:=Bool) (fun _=>(a2 (.any :: .ptr 0 0::a2 (.any :: .ptr 1 0::a16 (a16 (a4 (a2 (.any :: [])))))):List AV)) (fun c15=>(.cells (.p (.bool c15)::iI f.QoS :: .p (.bool f.Retain) :: .p (.bool f.Will) :: .p (.bool f.Clean)::iI f.Type' :: []) :: .cells (Q8b v12 ([])) :: []:List AObj)) (fun c15=>Gw N f v12 c15) ?_ ?_
 ·apply iU h<;>intro h
  ·show Exists _;exact ⟨(false),h,(fun i=>i),Ya⟩
  show Exists _;exact ⟨(f.Dup),h,(fun i=>i),Ya⟩
 rintro c15 h
 unfold Gw at h;rw [cX] at h;refine jrA (r:=r) (σ:=Int) (fun _=>(a2 (.any :: .ptr 0 0::a2 (.any :: .ptr 1 0::a16 (a16 (a4 (a2 (.any :: [])))))):List AV)) (fun c18=>(.cells (.p (.bool c15)::iI c18 :: .p (.bool f.Retain) :: .p (.bool f.Will) :: .p (.bool f.Clean)::iI f.Type' :: []) :: .cells (Q8b v12 ([])) :: []:List AObj)) (fun c18=>Q05 N f v12 c15 c18) ?_ ?_
 ·apply iU h<;>intro h
  ·show Exists _;exact ⟨(0),h,(fun i=>i),Ya⟩
  show Exists _;exact ⟨(f.QoS),h,(fun i=>i),Ya⟩
 rintro c18 h
 unfold Q05 at h;refine jrA (r:=r) (σ:=Bool) (fun _=>(a2 (.any :: .ptr 0 0::a2 (.any :: .ptr 1 0::a16 (a16 (a4 (a2 (.any :: [])))))):List AV)) (fun c21=>(.cells (.p (.bool c15)::iI c18 :: .p (.bool c21) :: .p (.bool f.Will) :: .p (.bool f.Clean)::iI f.Type' :: []) :: .cells (Q8b v12 ([])) :: []:List AObj)) (fun c21=>Q02 N f v12 c15 c18 c21) ?_ ?_
 ·apply iU h<;>intro h
  ·show Exists _;exact ⟨(false),h,(fun i=>i),Ya⟩
  show Exists _;exact ⟨(f.Retain),h,(fun i=>i),Ya⟩
 rintro c21 h
 unfold Q02 at h;refine jrA (r:=r) (σ:=Bool) (fun _=>(a2 (.any :: .ptr 0 0::a2 (.any :: .ptr 1 0::a16 (a16 (a4 (a2 (.any :: [])))))):List AV)) (fun c24=>(.cells (.p (.bool c15)::iI c18 :: .p (.bool c21) :: .p (.bool c24) :: .p (.bool f.Clean)::iI f.Type' :: []) :: .cells (Q8b v12 ([])) :: []:List AObj)) (fun c24=>Gs N f v12 c15 c18 c21 c24) ?_ ?_
 ·apply iU h<;>intro h
  ·show Exists _;exact ⟨(false),h,(fun i=>i),Ya⟩
  show Exists _;exact ⟨(f.Will),h,(fun i=>i),Ya⟩
 rintro c24 h
 unfold Gs at h;refine jrA (r:=r) (σ:=Bool) (fun _=>(a2 (.any :: .ptr 0 0::a2 (.any :: .ptr 1 0::a16 (a16 (a4 (a2 (.any :: [])))))):List AV)) (fun c27=>(.cells (.p (.bool c15)::iI c18 :: .p (.bool c21) :: .p (.bool c24) :: .p (.bool c27)::iI f.Type' :: []) :: .cells (Q8b v12 ([])) :: []:List AObj)) (fun c27=>Gt N f v12 c15 c18 c21 c24 c27) ?_ ?_
 ·apply iU h<;>intro h
  ·show Exists _;exact ⟨(false),h,(fun i=>i),Ya⟩
  show Exists _;exact ⟨(f.Clean),h,(fun i=>i),Ya⟩
 rintro c27 h
 unfold Gt at h;rw [cX] at h;refine jrA (r:=r) (σ:=Int) (fun _=>(a2 (.any :: .ptr 0 0::a16 (a16 (a8 (a2 (.any :: []))))):List AV)) (fun c30=>(.cells (.p (.bool c15)::iI c18 :: .p (.bool c21) :: .p (.bool c24) :: .p (.bool c27)::iI c30 :: []) :: .cells (Q8b v12 ([])) :: []:List AObj)) (fun c30=>Gk N c15 c18 c21 c24 c27 c30) ?_ ?_
 ·apply iU h<;>intro h
  ·show Exists _;exact ⟨(0),h,(fun i=>i),Ya⟩
  show Exists _;exact ⟨(f.Type'),h,(fun i=>i),Ya⟩
 rintro c30 h
 unfold Gk at h;cases h;exact (.p _)
def Q4l (_N:Nat) (kind:Int):Option Bool:=
 cond (Q4 .eql kind 7)
 (some true)
 (some (Q4 .eql kind 26))
theorem Qd2 {N} {kind} {r} (h:Q4l N kind=some r):pU 219 [.int .i64 kind] (.bool r):=by
 refine Q2 Z5u ?_;unfold Q4l at h;rw [cX] at h;exact iB h
def Jr (_N:Nat) (m:U2):Option Bool:=
 cond (Q4 .eql m.Type' 10)
 (some (Q4 .neq m.MsgID 0))
 (cond (Q4 .eql m.Type' 14)
 (some (Q4 .neq m.MsgID 0))
 (cond (Q4 .eql m.Type' 15)
 (some (Q4 .neq m.MsgID 0))
 (cond (Q4 .eql m.Type' 16)
 (some (Q4 .neq m.MsgID 0))
 (cond (Q4 .eql m.Type' 21)
 (some (Q4 .neq m.MsgID 0))
 (cond (Q4 .eql m.Type' 18)
 (some (Q4 .neq m.MsgID 0))
 (cond (Q4 .eql m.Type' 20)
 (some (Q4 .neq m.MsgID 0))
 (cond (Q4 .eql m.Type' 12)
 (some ((Q4 .neq m.MsgID 0) == (Q4 .gtr m.Flags.QoS 0)))
 (some true))))))))
theorem Q2y {N} {m} {r} (h:Jr N m=some r):pU 221 [.agg (U2.cells m)] (.bool r):=by
 refine Q2 Z4g ?_;unfold Jr at h;rw [cX] at h;refine ifO h (fun hc1 h=>?_) (fun hc1 h=>?_)
 ·refine ifT hc1 ?_;cases h;exact (.p _)
 refine ifO h (fun hc2 h=>?_) (fun hc2 h=>?_)
 ·refine ifT hc2 ?_;cases h;exact (.p _)
 refine ifO h (fun hc3 h=>?_) (fun hc3 h=>?_)
 ·refine ifT hc3 ?_;cases h;exact (.p _)
 refine ifO h (fun hc4 h=>?_) (fun hc4 h=>?_)
 ·refine ifT hc4 ?_;cases h;exact (.p _)
 refine ifO h (fun hc5 h=>?_) (fun hc5 h=>?_)
 ·refine ifT hc5 ?_;cases h;exact (.p _)
 refine ifO h (fun hc6 h=>?_) (fun hc6 h=>?_)
 ·refine ifT hc6 ?_;cases h;exact (.p _)
 refine iL h fun h=>?_;exact iB h
def Jn (N:Nat) (id:Int):Option ((List UInt8)×Bool):=
 cond (Q4 .lss id 0)
 (some ([],false))
 (cond (Q4 .gtr id 65535)
 (some ([],false))
 ((Yl N (wrap .u64 id) 2).bind fun v3=>
 (X4 N v3).bind fun v5=>
 cond (!v5)
 (some ([],false))
 (some (v3,true))))
theorem Q1q {N} {id} {r} (h:Jn N id=some r):pU 251 [.int .i64 id] (.tuple [.str r.1,.bool r.2]):=by
 refine Q2 Zbi ?_;unfold Jn at h;rw [cX] at h;refine iL2 h fun h=>?_;refine iL2 h fun h=>?_;refine cP h Y7 p2 fun v3 h=>?_;refine cP h Xy p1 fun v5 h=>?_;exact iB2 h
def Uh (N:Nat) (m:U2):Option Int:=
 cond (Q4 .eql m.Type' 18)
 (cond (Q4 .eql m.Flags.Type' 0)
 (some 0)
 (cond (Q4 .eql m.Flags.Type' 2)
 ((Jn N m.TopicID).bind fun v4=>
 cond (!v4.2)
 (some 10)
 (some 0))
 (cond (Q4 .lss m.TopicID 1)
 (some 2)
 (cond (Q4 .gtr m.TopicID 65534)
 (some 2)
 (some 0)))))
 (cond (Q4 .eql m.Type' 20)
 (cond (Q4 .eql m.Flags.Type' 0)
 (some 0)
 (cond (Q4 .eql m.Flags.Type' 2)
 ((Jn N m.TopicID).bind fun v12=>
 cond (!v12.2)
 (some 10)
 (some 0))
 (cond (Q4 .lss m.TopicID 1)
 (some 2)
 (cond (Q4 .gtr m.TopicID 65534)
 (some 2)
 (some 0)))))
 (cond (Q4 .eql m.Type' 12)
 (cond (Q4 .eql m.Flags.Type' 2)
 ((Jn N m.TopicID).bind fun v19=>
 cond (!v19.2)
 (some 10)
 (some 0))
 (cond (Q4 .lss m.TopicID 1)
 (some 2)
 (cond (Q4 .gtr m.TopicID 65534)
 (some 2)
 (some 0))))
 (cond (Q4 .eql m.Type' 10)
 (cond (Q4 .eql m.Flags.Type' 2)
 ((Jn N m.TopicID).bind fun v26=>
 cond (!v26.2)
 (some 10)
 (some 0))
 (cond (Q4 .lss m.TopicID 1)
 (some 2)
 (cond (Q4 .gtr m.TopicID 65534)
 (some 2)
 (some 0))))
 (some 0))))
theorem Q1n {N} {m} {r} (h:Uh N m=some r):pU 222 [.agg (U2.cells m)] (.int .i64 r):=by
 refine Q2 Z6m ?_;unfold Uh at h;rw [cX] at h;refine ifO h (fun hc1 h=>?_) (fun hc1 h=>?_)
 ·refine ifT hc1 ?_;refine iL h fun h=>?_;apply iU h<;>intro h
  ·refine cP h Q1q p1 fun v4 h=>?_;exact iB h
  refine iL h fun h=>?_;exact iB h
 apply iU h<;>intro h
 ·refine iL h fun h=>?_;apply iU h<;>intro h
  ·refine cP h Q1q p1 fun v12 h=>?_;exact iB h
  refine iL h fun h=>?_;exact iB h
 refine ifO h (fun hc17 h=>?_) (fun hc17 h=>?_)
 ·refine ifT hc17 ?_;apply iU h<;>intro h
  ·refine cP h Q1q p1 fun v19 h=>?_;exact iB h
  refine iL h fun h=>?_;exact iB h
 refine iR h fun h=>?_;apply iU h<;>intro h
 ·refine cP h Q1q p1 fun v26 h=>?_;exact iB h
 refine iL h fun h=>?_;exact iB h
def Q06 (N:Nat) (m:U2):Option Int:=
 cond (Q4 .eql m.Type' 4)
 (cond (G9 .neq m.Name [])
 (cond (Q4 .leq (m.Name.length:Int) 23)
 ((Yy N m.Name).bind fun v4=>
 cond v4
 (some 0)
 (some 6))
 (some 6))
 (some 6))
 (cond (Q4 .eql m.Type' 22)
 (cond (Q4 .leq (m.Name.length:Int) 23)
 ((Yy N m.Name).bind fun v9=>
 cond v9
 (some 0)
 (some 6))
 (some 6))
 (cond (Q4 .eql m.Type' 10)
 ((X4 N m.Name).bind fun v13=>
 cond v13
 (some 0)
 (some 10))
 (cond (Q4 .eql m.Type' 7)
 (cond (G9 .eql m.Name [])
 (some 0)
 ((X4 N m.Name).bind fun v18=>
 cond v18
 (some 0)
 (some 10)))
 (cond (Q4 .eql m.Type' 26)
 (cond (G9 .eql m.Name [])
 (some 0)
 ((X4 N m.Name).bind fun v23=>
 cond v23
 (some 0)
 (some 10)))
 (cond (Q4 .eql m.Type' 18)
 (cond (Q4 .neq m.Flags.Type' 0)
 (some 0)
 (none))
 (cond (Q4 .eql m.Type' 20)
 (cond (Q4 .neq m.Flags.Type' 0)
 (some 0)
 (none))
 (cond (Q4 .eql m.Type' 2)
 (cond (Q4 .leq (m.Name.length:Int) 16)
 (some 0)
 (some 2))
 (some 0))))))))
theorem Q3v {N} {m} {r} (h:Q06 N m=some r):pU 223 [.agg (U2.cells m)] (.int .i64 r):=by
 refine Q2 Zfp ?_;unfold Q06 at h;rw [cX,cY] at h;apply iU h<;>intro h
 ·refine iR h fun h=>?_;refine iR h fun h=>?_;refine cP h Wg p1 fun v4 h=>?_;exact iB h
 apply iU h<;>intro h
 ·refine iR h fun h=>?_;refine cP h Wg p1 fun v9 h=>?_;exact iB h
 apply iU h<;>intro h
 ·refine cP h Xy p1 fun v13 h=>?_;exact iB h
 refine ifO h (fun hc16 h=>?_) (fun hc16 h=>?_)
 ·refine ifT hc16 ?_;refine iL h fun h=>?_;refine cP h Xy p1 fun v18 h=>?_;exact iB h
 apply iU h<;>intro h
 ·refine iL h fun h=>?_;refine cP h Xy p1 fun v23 h=>?_;exact iB h
 refine ifO h (fun hc26 h=>?_) (fun hc26 h=>?_)
 ·refine ifT hc26 ?_;refine iL h fun h=>?_
  first | (cases h;done) | (simp [Ut] at h;done)
 apply iU h<;>intro h
 ·refine iL h fun h=>?_
  first | (cases h;done) | (simp [Ut] at h;done)
 refine iR h fun h=>?_;exact iB h
end
end
end Go.Av
