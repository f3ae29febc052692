/- Part of the proof of CrossTexts: for every input the law returns true; no condition. -/
import Derived.Test.YtaokaobiihpkbaaGreatDoorLiftF0
set_option linter.all false
open Go.IntKind (wrap)
namespace Go.Av
noncomputable section
open Go.Proofs
set_option maxRecDepth 100000
set_option maxHeartbeats 4000000
attribute [local irreducible] Xk Qs Q7i Q68 Qph Qrf Qiq
section
def Vc (N:Nat) (a:List Int) (b:List Int):Nat→Int→Option Bool
 | 0,_=>none
 | n+1,s19=>
  cond (Q5 .lss s19 ((Q8 (cI .i64) a).length:Int))
  ((idx a s19).bind fun y21=>
  (idx b s19).bind fun y23=>
  (Q2l N y21 y23).bind fun v25=>
  cond (!v25)
  (some false)
  (Vc N a b n (wrap .i64 (s19+1))))
  (some true)
def Gb (N:Nat) (a:List Int) (b:List Int):Option Bool:=
 cond (Q5 .neq ((Q8 (cI .i64) a).length:Int) ((Q8 (cI .i64) b).length:Int))
 (some false)
 (Vc N a b N 0)
theorem Q8o {N} {a} {b} {r} (h:Gb N a b=some r):pU 122 [.slice 1 (Q8 (cI .i64) a),.slice 1 (Q8 (cI .i64) b)] (.bool r):=by
 refine Q3 Z2r ?_;unfold Gb at h;rw [cX] at h;refine Qe Z5b ?_;refine iL h fun h=>?_;refine lpH (τ:=Int) (fun s19=>(.any :: .p (.slice 1 (Q8 (cI .i64) b)) :: .p (.func (.func 160) [] [])::a8 (a4 (.p (.slice 1 (Q8 (cI .i64) a)) :: .p (.int .i64 ((Q8 (cI .i64) a).length:Int))::iI s19::a8 (a4 (a2 ([]))))):List AV)) (fun n0 s19=>Vc N a b n0 s19) (0) h fun n0 s19 h=>?_
 first | rw [Vc] at h | simp only [Vc] at h
 rw [cX] at h;refine iR h fun h=>?_;refine xR h fun y21 h=>?_;refine xR h fun y23 h=>?_;refine cP h Q85 p2 fun v25 h=>?_;refine iL h fun h=>?_;show Exists _;exact ⟨(n0,(wrap .i64 (s19+1))),h,Lg _,(fun i=>i),Yq⟩
def J7 (_N:Nat) (a:Qx) (b:Qx):Option Bool:=
 some (((a.Topic:List UInt8) == b.Topic)&&(((a.QoS:Int) == b.QoS)&&(((a.NoLocal:Bool) == b.NoLocal)&&(((a.AsPublished:Bool) == b.AsPublished)&&(((a.Handling:Int) == b.Handling)&&true)))))
theorem Q3s {N} {a} {b} {r} (h:J7 N a b=some r):pU 162 [.agg (Qx.cells a),.agg (Qx.cells b)] (.bool r):=by
 refine Q3 Zce ?_;unfold J7 at h;cases h;exact (.p _)
def Yu (N:Nat) (a:List Qx) (b:List Qx):Nat→Int→Option Bool
 | 0,_=>none
 | n+1,s19=>
  cond (Q5 .lss s19 ((Q8 Qx.cells a).length:Int))
  ((idx a s19).bind fun y21=>
  (idx b s19).bind fun y23=>
  (J7 N y21 y23).bind fun v25=>
  cond (!v25)
  (some false)
  (Yu N a b n (wrap .i64 (s19+1))))
  (some true)
def Wj (N:Nat) (a:List Qx) (b:List Qx):Option Bool:=
 cond (Q5 .neq ((Q8 Qx.cells a).length:Int) ((Q8 Qx.cells b).length:Int))
 (some false)
 (Yu N a b N 0)
theorem Q49 {N} {a} {b} {r} (h:Wj N a b=some r):pU 123 [.slice 5 (Q8 Qx.cells a),.slice 5 (Q8 Qx.cells b)] (.bool r):=by
 refine Q3 Zct ?_;unfold Wj at h;rw [cX] at h;refine Qe Z4b ?_;refine iL h fun h=>?_;refine lpH (τ:=Int) (fun s19=>(.any :: .p (.slice 5 (Q8 Qx.cells b)) :: .p (.func (.func 162) [] [])::a8 (a4 (.p (.slice 5 (Q8 Qx.cells a))::iI ((Q8 Qx.cells a).length:Int)::iI s19::a8 (a4 (a2 ([]))))):List AV)) (fun n0 s19=>Yu N a b n0 s19) (0) h fun n0 s19 h=>?_
 first | rw [Yu] at h | simp only [Yu] at h
 rw [cX] at h;refine iR h fun h=>?_;refine xR h fun y21 h=>?_;refine xR h fun y23 h=>?_;refine cP h Q3s (.cons (Ar p5) (.cons (Ar p5) .nil)) fun v25 h=>?_;refine iL h fun h=>?_;show Exists _;exact ⟨(n0,(wrap .i64 (s19+1))),h,Lg _,(fun i=>i),Yq⟩
def Q3h (N:Nat) (a:Qp) (b:Qp):Option Bool:=
 (Q3v N a).bind fun v1=>
 (Q3v N b).bind fun v3=>
 cond (((v1.kind:Int) == v3.kind)&&(((v1.qos:Int) == v3.qos)&&(((v1.id:Int) == v3.id)&&(((v1.alive:Int) == v3.alive)&&(((v1.code:Int) == v3.code)&&(((v1.dup:Bool) == v3.dup)&&(((v1.retain:Bool) == v3.retain)&&(((v1.clean:Bool) == v3.clean)&&(((v1.user:Bool) == v3.user)&&(((v1.pass:Bool) == v3.pass)&&(((v1.will:Bool) == v3.will)&&(((v1.again:Bool) == v3.again)&&(((v1.topic:List UInt8) == v3.topic)&&(((v1.payload:List UInt8) == v3.payload)&&(((v1.client:List UInt8) == v3.client)&&(((v1.name:List UInt8) == v3.name)&&(((v1.word:List UInt8) == v3.word)&&true)))))))))))))))))
 ((G4 N a.Will b.Will).bind fun v6=>
 cond v6
 ((Gb N a.Codes b.Codes).bind fun v9=>
 cond v9
 ((Wj N a.Filters b.Filters).bind fun v12=>
 cond v12
 ((Wa N a.Props b.Props).bind fun v15=>
 some v15)
 (some false))
 (some false))
 (some false))
 (some false)
theorem Qe3 {N} {a} {b} {r} (h:Q3h N a b=some r):pU 99 [.agg (Qp.cells a),.agg (Qp.cells b)] (.bool r):=by
 refine Q3 k99 ?_;unfold Q3h at h;refine Qi ?_;obtain ⟨v1,hv2,h⟩:=Q0m h;refine Q1t (Q6b hv2) (.cons (Ar (Yo (f8_ (.cons (.p _) .nil)))) .nil) ?_;obtain ⟨v3,hv4,h⟩:=Q0m h;refine Q1t (Q6b hv4) (.cons (Ar (Yo (f8_ (.cons (.p _) .nil)))) .nil) ?_;refine Qlm (ks := [0,0,0,0,0,2,2,2,2,2,2,2,1,1,1,1,1]) (xs := [.p (.int .i64 v1.kind),.p (.int .i64 v1.qos),.p (.int .i64 v1.id),.p (.int .i64 v1.alive),.p (.int .i64 v1.code),.p (.bool v1.dup),.p (.bool v1.retain),.p (.bool v1.clean),.p (.bool v1.user),.p (.bool v1.pass),.p (.bool v1.will),.p (.bool v1.again),.p (.str v1.topic),.p (.str v1.payload),.p (.str v1.client),.p (.str v1.name),.p (.str v1.word)]) (ys := [.p (.int .i64 v3.kind),.p (.int .i64 v3.qos),.p (.int .i64 v3.id),.p (.int .i64 v3.alive),.p (.int .i64 v3.code),.p (.bool v3.dup),.p (.bool v3.retain),.p (.bool v3.clean),.p (.bool v3.user),.p (.bool v3.pass),.p (.bool v3.will),.p (.bool v3.again),.p (.str v3.topic),.p (.str v3.payload),.p (.str v3.client),.p (.str v3.name),.p (.str v3.word)]) (b:=(((v1.kind:Int) == v3.kind)&&(((v1.qos:Int) == v3.qos)&&(((v1.id:Int) == v3.id)&&(((v1.alive:Int) == v3.alive)&&(((v1.code:Int) == v3.code)&&(((v1.dup:Bool) == v3.dup)&&(((v1.retain:Bool) == v3.retain)&&(((v1.clean:Bool) == v3.clean)&&(((v1.user:Bool) == v3.user)&&(((v1.pass:Bool) == v3.pass)&&(((v1.will:Bool) == v3.will)&&(((v1.again:Bool) == v3.again)&&(((v1.topic:List UInt8) == v3.topic)&&(((v1.payload:List UInt8) == v3.payload)&&(((v1.client:List UInt8) == v3.client)&&(((v1.name:List UInt8) == v3.name)&&(((v1.word:List UInt8) == v3.word)&&true)))))))))))))))))) rfl ?_;refine ifO h (fun hc5 h=>?_) (fun hc5 h=>?_)
 ·obtain ⟨v6,hv7,h⟩:=Q0m h;refine Q1t (Q8z hv7) (.cons (Ar (f4_ (.cons (.p _) .nil))) (.cons (Ar (f4_ (.cons (.p _) .nil))) .nil)) ?_;refine ifO h (fun hc8 h=>?_) (fun hc8 h=>?_)
  ·obtain ⟨v9,hv10,h⟩:=Q0m h;refine Q1t (Q8o hv10) (.cons (.p _) (.cons (.p _) .nil)) ?_;refine ifO h (fun hc11 h=>?_) (fun hc11 h=>?_)
   ·obtain ⟨v12,hv13,h⟩:=Q0m h;refine Q1t (Q49 hv13) (.cons (.p _) (.cons (.p _) .nil)) ?_;refine ifO h (fun hc14 h=>?_) (fun hc14 h=>?_)
    ·obtain ⟨v15,hv16,h⟩:=Q0m h;refine Q1t (Q10 hv16) (.cons (.p _) (.cons (.p _) .nil)) ?_;have hr:=Qt h;subst hr;exact (.p _)
    have hr:=Qt h;subst hr;exact (.p _)
   have hr:=Qt h;subst hr;exact (.p _)
  have hr:=Qt h;subst hr;exact (.p _)
 have hr:=Qt h;subst hr;exact (.p _)
def Q0j (_N:Nat) (kind:Int) (id:Int):Option Bool:=
 cond (Q5 .eql id 38)
 (some true)
 (cond (Q5 .eql id 11)
 (some (Q5 .eql kind 3))
 (some false))
theorem Q6p {N} {kind} {id} {r} (h:Q0j N kind id=some r):pU 167 [.int .i64 kind,.int .i64 id] (.bool r):=by
 refine Q3 Zby ?_;unfold Q0j at h;rw [cX] at h;refine iL h fun h=>?_;exact iB h
def Xb (N:Nat) (n_0:Int) (size:Int):Nat→Int→(List Int)→Option (List UInt8)
 | 0,_,_=>none
 | n+1,s14,l15=>
  cond (Q5 .lss s14 (ifB (decide (16<size)) 16 size))
  (cond (Q5 .lss s14 8)
  (cond (decide (0≤(wrap .u64 (wrap .i64 (8 * s14))))) ((idx (l15:List Int) (wrap .i64 ((wrap .i64 ((ifB (decide (16<size)) 16 size) - 1)) - s14))).bind fun y19=>
  Xb N n_0 size n (wrap .i64 (s14+1)) ((l15:List Int).set (Int.toNat (wrap .i64 ((wrap .i64 ((ifB (decide (16<size)) 16 size) - 1)) - s14))) (wrap .u8 (Qot .u64 n_0 (wrap .u64 (wrap .i64 (8 * s14))))))) none)
  (Xb N n_0 size n (wrap .i64 (s14+1)) l15))
  (some (l15.map fun n=>UInt8.ofNat n.toNat))
def Yf (N:Nat) (n_0:Int) (size:Int):Option (List UInt8):=
 cond (Q5 .leq size 0)
 (some [])
 (cond (decide (0≤(ifB (decide (16<size)) 16 size))&&decide ((ifB (decide (16<size)) 16 size)≤(ifB (decide (16<size)) 16 size))&&decide ((ifB (decide (16<size)) 16 size) * 1≤1099511627776)) (Xb N n_0 size N 0 (List.replicate ((ifB (decide (16<size)) 16 size):Int).toNat (0:Int))) none)
theorem Y4 {N} {n_0} {size} {r} (h:Yf N n_0 size=some r):pU 168 [.int .u64 n_0,.int .i64 size] (.str r):=by
 refine Q3 Z98 ?_;unfold Yf at h;rw [cX] at h;refine iL h fun h=>?_;refine kU h fun h=>?_;refine Z0x (c:=(cI .u8)) (0:Int) rfl ?_;refine lpC (τ:=Int×(List Int)) (fun ⟨s14,l15⟩=>(iW n_0 :: .p (.int .i64 (ifB (decide (16<size)) 16 size))::a2 (.any :: .slice 1 1 0 l15.length::a4 (a2 (.any :: .p (.int .i64 (ifB (decide (16<size)) 16 size))::iI s14::a16 (a2 (.any :: []))))):List AV)) (fun ⟨_,l15⟩=>(.dead :: .cells (Wt (cI .u8) l15) :: []:List AObj)) (fun n0 ⟨s14,l15⟩=>Xb N n_0 size n0 s14 l15) (0,(List.replicate ((ifB (decide (16<size)) 16 size):Int).toNat (0:Int))) h (rho [0,0]) Yq fun n0 ⟨s14,l15⟩ h=>?_
 first | rw [Xb] at h | simp only [Xb] at h
 rw [cX] at h;apply iU h<;>intro h
 ·apply iU h<;>intro h
  ·refine kU h fun h=>?_;obtain ⟨y19,hy20,h⟩:=Q0m h;refine Q37 (Qp2 hy20 sd) ?_;refine Q37 (Qc7 (c:=(cI .u8)) (e:=1) (fun _=>rfl) hy20 (off:=0) (by omega) rfl (by decide)) ?_
   refine Qdt (c:=(cI .u8)) (e:=1) (fun _=>rfl) hy20 (wrap .u8 (Qot .u64 n_0 (wrap .u64 (wrap .i64 (8 * s14))))) (off:=0) (by first | omega | (simp only [Qan,orI,Qtv,Q58,Qh7,Qot];omega)) rfl (by simp) ?_
   show Exists _;exact ⟨(n0,(wrap .i64 (s14+1)),((l15:List Int).set (Int.toNat (wrap .i64 ((wrap .i64 ((ifB (decide (16<size)) 16 size) - 1)) - s14))) (wrap .u8 (Qot .u64 n_0 (wrap .u64 (wrap .i64 (8 * s14))))))),h,Lg _,(fun i=>i),Yq⟩
  show Exists _;exact ⟨(n0,(wrap .i64 (s14+1)),l15),h,Lg _,(fun i=>i),Yq⟩
 refine Qiz (l:=l15) (n:=l15.length) sd ?_;cases h;exact (.p _)
def Q03 (N:Nat) (s_0:List UInt8):Option (List UInt8):=
 (Yf N (wrap .u64 (s_0.length:Int)) 2).bind fun v1=>
 cond (Nat.ble (v1.length+s_0.length) 4611686018427387904) (some (v1++s_0)) none
theorem Q8b {N} {s_0} {r} (h:Q03 N s_0=some r):pU 198 [.str s_0] (.str r):=by
 refine Q3 Zd1 ?_;unfold Q03 at h;refine cP h Y4 p2 fun v1 h=>?_;refine kU h fun h=>?_;cases h;exact (.p _)
def Jf (N:Nat) (s_0:List UInt8):Option ((List UInt8)×Int):=
 cond (Q5 .gtr (s_0.length:Int) 65535)
 (some ([],2))
 ((Q03 N s_0).bind fun v2=>
 some (v2,0))
theorem Q39 {N} {s_0} {r} (h:Jf N s_0=some r):pU 169 [.str s_0] (.tuple [.str r.1,.int .i64 r.2]):=by
 refine Q3 Zdw ?_;unfold Jf at h;rw [cX] at h;refine iL2 h fun h=>?_;refine cP h Q8b p1 fun v2 h=>?_;obtain rfl:=Qt h;exact u2
def Q26 (_N:Nat) (n_0:Int):Option Bool:=
 cond (Q5 .geq n_0 0)
 (some (Q5 .leq n_0 268435455))
 (some false)
theorem Qdn {N} {n_0} {r} (h:Q26 N n_0=some r):pU 170 [.int .i64 n_0] (.bool r):=by
 refine Q3 Zbh ?_;unfold Q26 at h;rw [cX] at h;exact iB h
def Wn (N:Nat):Nat→Int→(List Int)→Option ((List UInt8)×Int)
 | 0,_,_=>none
 | n+1,n9,l10=>
  cond (Q5 .geq n9 128)
  (cond (Nat.ble ((l10.length+1+4096) * 1) 17592186044416) (Wn N n (wrap .i64 ((n9:Int).tdiv 128)) (l10 ++ [(orI .u8 (wrap .u8 ((n9:Int).tmod 128)) 128)])) none)
  (cond (Nat.ble ((l10.length+1+4096) * 1) 17592186044416) (some (((l10 ++ [(wrap .u8 n9)]).map fun n=>UInt8.ofNat n.toNat),0)) none)
def Ui (N:Nat) (n_0:Int):Option ((List UInt8)×Int):=
 (Q26 N n_0).bind fun v1=>
 cond (!v1)
 (some ([],2))
 (Wn N N n_0 [])
theorem Q1u {N} {n_0} {r} (h:Ui N n_0=some r):pU 131 [.int .i64 n_0] (.tuple [.str r.1,.int .i64 r.2]):=by
 refine Q3 Z5w ?_;unfold Ui at h;refine cP h Qdn p1 fun v1 h=>?_;refine iL2 h fun h=>?_;refine lpA (τ:=Int×(List Int)) (fun ⟨n9,l10⟩=>(iI n9::a2 (.any :: .slice 1 0 0 l10.length::a16 (a4 ([]))):List AV)) (fun ⟨_,l10⟩=>(.cells (Wt (cI .u8) l10) :: []:List AObj)) (fun n0 ⟨n9,l10⟩=>Wn N n0 n9 l10) (n_0,[]) h fun n0 ⟨n9,l10⟩ h=>?_
 first | rw [Wn] at h | simp only [Wn] at h
 rw [cX] at h;apply iU h<;>intro h
 ·obtain ⟨hk12,h⟩:=Q66 h;refine Q37 (Xo (c:=(cI .u8)) (e:=1) (fun _=>rfl) sd hk12) ?_;refine J2 (c:=(cI .u8)) [(orI .u8 (wrap .u8 ((n9:Int).tmod 128)) 128)] rfl ?_;show Exists _;exact ⟨(n0,(wrap .i64 ((n9:Int).tdiv 128)),(l10 ++ [(orI .u8 (wrap .u8 ((n9:Int).tmod 128)) 128)])),h,Lg _,(rho [2]),Yq⟩
 obtain ⟨hk13,h⟩:=Q66 h;refine Q37 (Xo (c:=(cI .u8)) (e:=1) (fun _=>rfl) sd hk13) ?_;refine J2 (c:=(cI .u8)) [(wrap .u8 n9)] rfl ?_;refine Qiz (l:=(l10 ++ [(wrap .u8 n9)])) (n:=(l10.length+1)) sd ?_;obtain rfl:=Qt h;exact u2
def Ux (N:Nat) (shape:Int) (p:Z8):Option (List UInt8):=
 cond (Q5 .eql shape 1)
 ((Yf N (wrap .u64 p.N') shape).bind fun v2=>
 some v2)
 (cond (Q5 .eql shape 2)
 ((Yf N (wrap .u64 p.N') shape).bind fun v5=>
 some v5)
 (cond (Q5 .eql shape 3)
 ((Yf N (wrap .u64 p.N') 4).bind fun v8=>
 some v8)
 (cond (Q5 .eql shape 4)
 ((Ui N (wrap .i64 p.N')).bind fun v11=>
 some v11.1)
 ((Jf N p.Text).bind fun v13=>
 cond (Q5 .neq shape 7)
 (some v13.1)
 ((Jf N p.Value).bind fun v16=>
 cond (Nat.ble (v13.1.length+v16.1.length) 4611686018427387904) (some (v13.1++v16.1)) none)))))
theorem Q0o {N} {shape} {p} {r} (h:Ux N shape p=some r):pU 129 [.int .i64 shape,.agg (Z8.cells p)] (.str r):=by
 refine Q3 Zbt ?_;unfold Ux at h;rw [cX] at h;refine ifO h (fun hc1 h=>?_) (fun hc1 h=>?_)
 ·refine ifT hc1 ?_;refine cP h Y4 p2 fun v2 h=>?_;cases h;exact (.p _)
 apply iU h<;>intro h
 ·refine cP h Y4 p2 fun v5 h=>?_;cases h;exact (.p _)
 apply iU h<;>intro h
 ·refine cP h Y4 p2 fun v8 h=>?_;cases h;exact (.p _)
 apply iU h<;>intro h
 ·refine cP h Q1u p1 fun v11 h=>?_;cases h;exact (.p _)
 refine cP h Q39 p1 fun v13 h=>?_;refine iL h fun h=>?_;refine cP h Q39 p1 fun v16 h=>?_;refine kU h fun h=>?_;cases h;exact (.p _)
def F_prop_rules_tab:List (Int×Qo) := [(1,(⟨1,65544,0,1⟩:Qo)),(2,(⟨3,65544,0,4294967295⟩:Qo)),(3,(⟨5,65544,0,0⟩:Qo)),(8,(⟨5,65544,0,0⟩:Qo)),(9,(⟨6,65544,0,0⟩:Qo)),(11,(⟨4,264,1,268435455⟩:Qo)),(17,(⟨3,16390,0,4294967295⟩:Qo)),(18,(⟨5,4,0,0⟩:Qo)),(19,(⟨2,4,0,65535⟩:Qo)),(21,(⟨5,32774,0,0⟩:Qo)),(22,(⟨6,32774,0,0⟩:Qo)),(23,(⟨1,2,0,1⟩:Qo)),(24,(⟨3,65536,0,4294967295⟩:Qo)),(25,(⟨1,2,0,1⟩:Qo)),(26,(⟨5,4,0,0⟩:Qo)),(28,(⟨5,16388,0,0⟩:Qo)),(31,(⟨5,51956,0,0⟩:Qo)),(33,(⟨2,6,1,65535⟩:Qo)),(34,(⟨2,6,0,65535⟩:Qo)),(35,(⟨2,8,1,65535⟩:Qo)),(36,(⟨1,4,0,1⟩:Qo)),(37,(⟨1,4,0,1⟩:Qo)),(38,(⟨7,118782,0,0⟩:Qo)),(39,(⟨3,6,1,4294967295⟩:Qo)),(40,(⟨1,4,0,1⟩:Qo)),(41,(⟨1,4,0,1⟩:Qo)),(42,(⟨1,4,0,1⟩:Qo))]
theorem Qd2:pU 126 [] (.pmap (Qzf (fun v => .agg (Qo.cells v)) F_prop_rules_tab)):=Q23 Qfo (N:=2000) (d:=60) (by kernel_rfl)
def Vv (_N:Nat) (r_0:Qo) (kind:Int):Option Bool:=
 cond (Q5 .geq kind 1)
 (cond (Q5 .leq kind 16)
 (cond (decide (0≤(wrap .u64 kind))) (some (Q5 .eql (Qan .i64 (Qot .i64 r_0.kinds (wrap .u64 kind)) 1) 1)) none)
 (some false))
 (some false)
theorem Q8y {N} {r_0} {kind} {r} (h:Vv N r_0 kind=some r):pU 165 [.agg (Qo.cells r_0),.int .i64 kind] (.bool r):=by
 refine Q3 Z60 ?_;unfold Vv at h;rw [cX] at h;refine iR h fun h=>?_;refine iR h fun h=>?_;refine kU h fun h=>?_;cases h;exact (.p _)
def Ue (_N:Nat) (r_0:Qo) (p:Z8):Option Int:=
 cond (Q0k .neq p.Text [])
 (some 2)
 (cond (Q0k .neq p.Value [])
 (some 2)
 (cond (Q5 .lss p.N' r_0.least)
 (some 9)
 (cond (Q5 .gtr p.N' r_0.most)
 (some 9)
 (some 0))))
theorem Q6u {N} {r_0} {p} {r} (h:Ue N r_0 p=some r):pU 166 [.agg (Qo.cells r_0),.agg (Z8.cells p)] (.int .i64 r):=by
 refine Q3 Z5m ?_;unfold Ue at h;rw [cX,cY] at h;refine iL h fun h=>?_;refine iL h fun h=>?_;refine iL h fun h=>?_;exact iB h
def Jx (N:Nat) (r_0:Qo) (kind:Int) (p:Z8):Option Int:=
 (Vv N r_0 kind).bind fun v1=>
 cond (!v1)
 (some 9)
 (cond (Q5 .leq r_0.shape 4)
 ((Ue N r_0 p).bind fun v5=>
 some v5)
 (cond (Q5 .neq p.N' 0)
 (some 2)
 (cond (Q0k .neq p.Value [])
 (cond (Q5 .neq r_0.shape 7)
 (some 2)
 (cond (Q5 .eql r_0.shape 6)
 (cond (Q5 .gtr (p.Text.length:Int) 65535)
 (some 2)
 (some 0))
 ((Xa N p.Text).bind fun v12=>
 cond (!v12)
 (some 6)
 ((Xa N p.Value).bind fun v15=>
 cond (!v15)
 (some 6)
 (cond (Q5 .eql p.ID 8)
 ((Yx N p.Text).bind fun v19=>
 cond (!v19)
 (some 9)
 (some 0))
 (some 0))))))
 (cond (Q5 .eql r_0.shape 6)
 (cond (Q5 .gtr (p.Text.length:Int) 65535)
 (some 2)
 (some 0))
 ((Xa N p.Text).bind fun v24=>
 cond (!v24)
 (some 6)
 ((Xa N p.Value).bind fun v27=>
 cond (!v27)
 (some 6)
 (cond (Q5 .eql p.ID 8)
 ((Yx N p.Text).bind fun v31=>
 cond (!v31)
 (some 9)
 (some 0))
 (some 0))))))))
theorem Q70 {N} {r_0} {kind} {p} {r} (h:Jx N r_0 kind p=some r):pU 127 [.agg (Qo.cells r_0),.int .i64 kind,.agg (Z8.cells p)] (.int .i64 r):=by
 refine Q3 Zcg ?_;unfold Jx at h;rw [cX,cY] at h;refine cP h Q8y (.cons q4 p1) fun v1 h=>?_;refine iL h fun h=>?_;apply iU h<;>intro h
 ·refine cP h Q6u (.cons q4 (.cons q4 .nil)) fun v5 h=>?_;cases h;exact (.p _)
 refine iL h fun h=>?_;apply iU h<;>intro h
 ·refine iL h fun h=>?_;apply iU h<;>intro h
  ·exact iB h
  refine cP h W3 p1 fun v12 h=>?_;refine iL h fun h=>?_;refine cP h W3 p1 fun v15 h=>?_;refine iL h fun h=>?_;refine iR h fun h=>?_;refine cP h Xn p1 fun v19 h=>?_;exact iB h
 apply iU h<;>intro h
 ·exact iB h
 refine cP h W3 p1 fun v24 h=>?_;refine iL h fun h=>?_;refine cP h W3 p1 fun v27 h=>?_;refine iL h fun h=>?_;refine iR h fun h=>?_;refine cP h Xn p1 fun v31 h=>?_;exact iB h
def Zi (N:Nat) (kind:Int) (l:List Z8):Nat→Int→(List Int)→(List Int)→Option ((List UInt8)×Int)
 | 0,_,_,_=>none
 | n+1,s107,l108,l109=>
  cond (Q5 .lss s107 ((Q8 Z8.cells l).length:Int))
  ((idx l s107).bind fun y111=>
  optC (Q6o F_prop_rules_tab y111.ID) (fun m113=>
  (Jx N m113 kind y111).bind fun v115=>
  cond (Q5 .neq v115 0)
  (some ([],v115))
  (cond (decide (0≤y111.ID)&&decide (y111.ID<((64:Nat):Int))) ((idx (l108:List Int) y111.ID).bind fun y118=>
  (idx (l108:List Int) y111.ID).bind fun y121=>
  (idx (((l108:List Int).set (Int.toNat y111.ID) (wrap .i64 (y118+1))):List Int) y111.ID).bind fun y123=>
  cond (Q5 .gtr y123 1)
  ((Q0j N kind y111.ID).bind fun v126=>
  cond (!v126)
  (some ([],9))
  (cond (Nat.ble ((l109.length+1+4096) * 1) 17592186044416) ((Ux N m113.shape y111).bind fun v130=>
  cond (Nat.beq v130.length 0)
  (Zi N kind l n (wrap .i64 (s107+1)) ((l108:List Int).set (Int.toNat y111.ID) (wrap .i64 (y118+1))) (l109 ++ [(wrap .u8 y111.ID)]))
  (cond (Nat.ble (((l109.length+1)+v130.length+4096) * 1) 17592186044416) (Zi N kind l n (wrap .i64 (s107+1)) ((l108:List Int).set (Int.toNat y111.ID) (wrap .i64 (y118+1))) ((l109 ++ [(wrap .u8 y111.ID)])++(v130.map fun b=>(b.toNat:Int)))) none)) none))
  (cond (Nat.ble ((l109.length+1+4096) * 1) 17592186044416) ((Ux N m113.shape y111).bind fun v135=>
  cond (Nat.beq v135.length 0)
  (Zi N kind l n (wrap .i64 (s107+1)) ((l108:List Int).set (Int.toNat y111.ID) (wrap .i64 (y118+1))) (l109 ++ [(wrap .u8 y111.ID)]))
  (cond (Nat.ble (((l109.length+1)+v135.length+4096) * 1) 17592186044416) (Zi N kind l n (wrap .i64 (s107+1)) ((l108:List Int).set (Int.toNat y111.ID) (wrap .i64 (y118+1))) ((l109 ++ [(wrap .u8 y111.ID)])++(v135.map fun b=>(b.toNat:Int)))) none)) none)) none))
  ((Jx N (⟨0,0,0,0⟩:Qo) kind y111).bind fun v139=>
  cond (Q5 .neq v139 0)
  (some ([],v139))
  (cond (decide (0≤y111.ID)&&decide (y111.ID<((64:Nat):Int))) ((idx (l108:List Int) y111.ID).bind fun y142=>
  (idx (l108:List Int) y111.ID).bind fun y145=>
  (idx (((l108:List Int).set (Int.toNat y111.ID) (wrap .i64 (y142+1))):List Int) y111.ID).bind fun y147=>
  cond (Q5 .gtr y147 1)
  ((Q0j N kind y111.ID).bind fun v150=>
  cond (!v150)
  (some ([],9))
  (cond (Nat.ble ((l109.length+1+4096) * 1) 17592186044416) ((Ux N 0 y111).bind fun v154=>
  cond (Nat.beq v154.length 0)
  (Zi N kind l n (wrap .i64 (s107+1)) ((l108:List Int).set (Int.toNat y111.ID) (wrap .i64 (y142+1))) (l109 ++ [(wrap .u8 y111.ID)]))
  (cond (Nat.ble (((l109.length+1)+v154.length+4096) * 1) 17592186044416) (Zi N kind l n (wrap .i64 (s107+1)) ((l108:List Int).set (Int.toNat y111.ID) (wrap .i64 (y142+1))) ((l109 ++ [(wrap .u8 y111.ID)])++(v154.map fun b=>(b.toNat:Int)))) none)) none))
  (cond (Nat.ble ((l109.length+1+4096) * 1) 17592186044416) ((Ux N 0 y111).bind fun v159=>
  cond (Nat.beq v159.length 0)
  (Zi N kind l n (wrap .i64 (s107+1)) ((l108:List Int).set (Int.toNat y111.ID) (wrap .i64 (y142+1))) (l109 ++ [(wrap .u8 y111.ID)]))
  (cond (Nat.ble (((l109.length+1)+v159.length+4096) * 1) 17592186044416) (Zi N kind l n (wrap .i64 (s107+1)) ((l108:List Int).set (Int.toNat y111.ID) (wrap .i64 (y142+1))) ((l109 ++ [(wrap .u8 y111.ID)])++(v159.map fun b=>(b.toNat:Int)))) none)) none)) none)))
  ((idx (l108:List Int) 22).bind fun y163=>
  cond (Q5 .gtr y163 0)
  ((idx (l108:List Int) 21).bind fun y166=>
  cond (Q5 .eql y166 0)
  (some ([],9))
  ((Ui N (l109.length:Int)).bind fun v169=>
  cond (Q5 .neq v169.2 0)
  (some ([],4))
  (cond (Nat.ble (v169.1.length+(l109.map fun n=>UInt8.ofNat n.toNat).length) 4611686018427387904) (some ((v169.1++(l109.map fun n=>UInt8.ofNat n.toNat)),0)) none)))
  ((Ui N (l109.length:Int)).bind fun v173=>
  cond (Q5 .neq v173.2 0)
  (some ([],4))
  (cond (Nat.ble (v173.1.length+(l109.map fun n=>UInt8.ofNat n.toNat).length) 4611686018427387904) (some ((v173.1++(l109.map fun n=>UInt8.ofNat n.toNat)),0)) none)))
def Q27 (N:Nat) (kind:Int) (l:List Z8):Option ((List UInt8)×Int):=
 cond (Q5 .gtr ((Q8 Z8.cells l).length:Int) 1000)
 (some ([],4))
 (Zi N kind l N 0 [0,0,0,0,0,0,0,0,0,0,0,0,0,0,0,0,0,0,0,0,0,0,0,0,0,0,0,0,0,0,0,0,0,0,0,0,0,0,0,0,0,0,0,0,0,0,0,0,0,0,0,0,0,0,0,0,0,0,0,0,0,0,0,0] [])
theorem Qcm {N} {kind} {l} {r} (h:Q27 N kind l=some r):pU 101 [.int .i64 kind,.slice 4 (Q8 Z8.cells l)] (.tuple [.str r.1,.int .i64 r.2]):=by
 refine Q3 Zc3 ?_;unfold Q27 at h;rw [cX] at h;refine iL2 h fun h=>?_;refine W1 Qd2 .nil ?_;refine lpA (τ:=Int×(List Int)×(List Int)) (fun ⟨s107,_,l109⟩=>(iI kind::a4 (.any :: .p (.pmap (Qzf (fun v => .agg (Qo.cells v)) F_prop_rules_tab)) :: .ptr 0 0 :: .slice 1 1 0 l109.length::a8 (a2 (.p (.slice 4 (Q8 Z8.cells l))::iI ((Q8 Z8.cells l).length:Int)::iI s107::a16 (a16 (a8 (a2 (.any :: []))))))):List AV)) (fun ⟨_,l108,l109⟩=>(.cells (Wt (cI .i64) l108) :: .cells (Wt (cI .u8) l109) :: []:List AObj)) (fun n0 ⟨s107,l108,l109⟩=>Zi N kind l n0 s107 l108 l109) (0,[0,0,0,0,0,0,0,0,0,0,0,0,0,0,0,0,0,0,0,0,0,0,0,0,0,0,0,0,0,0,0,0,0,0,0,0,0,0,0,0,0,0,0,0,0,0,0,0,0,0,0,0,0,0,0,0,0,0,0,0,0,0,0,0],[]) h fun n0 ⟨s107,l108,l109⟩ h=>?_
 first | rw [Zi] at h | simp only [Zi] at h
 rw [cX] at h;apply iU h<;>intro h
 ·refine xR h fun y111 h=>?_;refine Qug h (fun m113 hm114 h=>?_) (fun hm114 h=>?_)
  ·refine cP h Q70 (.cons q4 (.cons (.p _) (.cons q4 .nil))) fun v115 h=>?_;refine iL2 h fun h=>?_;refine Qe Z1c ?_;refine Qi ?_;obtain ⟨hk120,h⟩:=Q66 h;refine Q37 hk120 ?_;obtain ⟨y118,hy119,h⟩:=Q0m h
   refine Q6j (c:=(cI .i64)) (e:=1) (fun _=>rfl) hy119 (off:=0) (by decide) (by first | omega | (simp only [Qan,orI,Qtv,Q58,Qh7,Qot];omega)) ?_
   refine Q37 hk120 ?_;obtain ⟨y121,hy122,h⟩:=Q0m h;refine Q37 (Qc7 (c:=(cI .i64)) (e:=1) (fun _=>rfl) hy122 (off:=0) (by omega) rfl (by decide)) ?_
   refine Qdt (c:=(cI .i64)) (e:=1) (fun _=>rfl) hy122 (wrap .i64 (y118+1)) (off:=0) (by first | omega | (simp only [Qan,orI,Qtv,Q58,Qh7,Qot];omega)) rfl (by simp) ?_
   refine Q37 hk120 ?_;obtain ⟨y123,hy124,h⟩:=Q0m h
   refine Q6j (c:=(cI .i64)) (e:=1) (fun _=>rfl) hy124 (off:=0) (by decide) (by first | omega | (simp only [Qan,orI,Qtv,Q58,Qh7,Qot];omega)) ?_
   apply iU h<;>intro h
   ·refine cP h Q6p p2 fun v126 h=>?_;refine iL2 h fun h=>?_;refine Qi ?_;obtain ⟨hk129,h⟩:=Q66 h;refine Q37 (Xo (c:=(cI .u8)) (e:=1) (fun _=>rfl) sd hk129) ?_;refine J2 (c:=(cI .u8)) [(wrap .u8 y111.ID)] rfl ?_;refine cD h Q0o (.cons (.p _) (.cons q4 .nil)) fun v130 h=>?_;refine Qb0 (b:=v130) ?_;apply iU h<;>intro h
    ·show Exists _;exact ⟨(n0,(wrap .i64 (s107+1)),((l108:List Int).set (Int.toNat y111.ID) (wrap .i64 (y118+1))),(l109 ++ [(wrap .u8 y111.ID)])),h,Lg _,(rho [0,5]),Yq⟩
    obtain ⟨hk133,h⟩:=Q66 h;refine Q37 (Xo (c:=(cI .u8)) (e:=1) (l:=(l109 ++ [(wrap .u8 y111.ID)])) (fun _=>rfl) sd hk133) ?_;refine J2 (c:=(cI .u8)) (l:=(l109 ++ [(wrap .u8 y111.ID)])) (v130.map fun b=>(b.toNat:Int)) rfl ?_;show Exists _;exact ⟨(n0,(wrap .i64 (s107+1)),((l108:List Int).set (Int.toNat y111.ID) (wrap .i64 (y118+1))),((l109 ++ [(wrap .u8 y111.ID)])++(v130.map fun b=>(b.toNat:Int)))),h,Lg _,(rho [0,6]),Yq⟩
   refine Qi ?_;obtain ⟨hk134,h⟩:=Q66 h;refine Q37 (Xo (c:=(cI .u8)) (e:=1) (fun _=>rfl) sd hk134) ?_;refine J2 (c:=(cI .u8)) [(wrap .u8 y111.ID)] rfl ?_;refine cD h Q0o (.cons (.p _) (.cons q4 .nil)) fun v135 h=>?_;refine Qb0 (b:=v135) ?_;apply iU h<;>intro h
   ·show Exists _;exact ⟨(n0,(wrap .i64 (s107+1)),((l108:List Int).set (Int.toNat y111.ID) (wrap .i64 (y118+1))),(l109 ++ [(wrap .u8 y111.ID)])),h,Lg _,(rho [0,5]),Yq⟩
   obtain ⟨hk138,h⟩:=Q66 h;refine Q37 (Xo (c:=(cI .u8)) (e:=1) (l:=(l109 ++ [(wrap .u8 y111.ID)])) (fun _=>rfl) sd hk138) ?_;refine J2 (c:=(cI .u8)) (l:=(l109 ++ [(wrap .u8 y111.ID)])) (v135.map fun b=>(b.toNat:Int)) rfl ?_;show Exists _;exact ⟨(n0,(wrap .i64 (s107+1)),((l108:List Int).set (Int.toNat y111.ID) (wrap .i64 (y118+1))),((l109 ++ [(wrap .u8 y111.ID)])++(v135.map fun b=>(b.toNat:Int)))),h,Lg _,(rho [0,6]),Yq⟩
  refine cP h Q70 (.cons q4 (.cons (.p _) (.cons q4 .nil))) fun v139 h=>?_;refine iL2 h fun h=>?_;refine Qe Z1c ?_;refine Qi ?_;obtain ⟨hk144,h⟩:=Q66 h;refine Q37 hk144 ?_;obtain ⟨y142,hy143,h⟩:=Q0m h
  refine Q6j (c:=(cI .i64)) (e:=1) (fun _=>rfl) hy143 (off:=0) (by decide) (by first | omega | (simp only [Qan,orI,Qtv,Q58,Qh7,Qot];omega)) ?_
  refine Q37 hk144 ?_;obtain ⟨y145,hy146,h⟩:=Q0m h;refine Q37 (Qc7 (c:=(cI .i64)) (e:=1) (fun _=>rfl) hy146 (off:=0) (by omega) rfl (by decide)) ?_
  refine Qdt (c:=(cI .i64)) (e:=1) (fun _=>rfl) hy146 (wrap .i64 (y142+1)) (off:=0) (by first | omega | (simp only [Qan,orI,Qtv,Q58,Qh7,Qot];omega)) rfl (by simp) ?_
  refine Q37 hk144 ?_;obtain ⟨y147,hy148,h⟩:=Q0m h
  refine Q6j (c:=(cI .i64)) (e:=1) (fun _=>rfl) hy148 (off:=0) (by decide) (by first | omega | (simp only [Qan,orI,Qtv,Q58,Qh7,Qot];omega)) ?_
  apply iU h<;>intro h
  ·refine cP h Q6p p2 fun v150 h=>?_;refine iL2 h fun h=>?_;refine Qi ?_;obtain ⟨hk153,h⟩:=Q66 h;refine Q37 (Xo (c:=(cI .u8)) (e:=1) (fun _=>rfl) sd hk153) ?_;refine J2 (c:=(cI .u8)) [(wrap .u8 y111.ID)] rfl ?_;refine cD h Q0o (.cons (.p _) (.cons q4 .nil)) fun v154 h=>?_;refine Qb0 (b:=v154) ?_;apply iU h<;>intro h
   ·show Exists _;exact ⟨(n0,(wrap .i64 (s107+1)),((l108:List Int).set (Int.toNat y111.ID) (wrap .i64 (y142+1))),(l109 ++ [(wrap .u8 y111.ID)])),h,Lg _,(rho [0,5]),Yq⟩
   obtain ⟨hk157,h⟩:=Q66 h;refine Q37 (Xo (c:=(cI .u8)) (e:=1) (l:=(l109 ++ [(wrap .u8 y111.ID)])) (fun _=>rfl) sd hk157) ?_;refine J2 (c:=(cI .u8)) (l:=(l109 ++ [(wrap .u8 y111.ID)])) (v154.map fun b=>(b.toNat:Int)) rfl ?_;show Exists _;exact ⟨(n0,(wrap .i64 (s107+1)),((l108:List Int).set (Int.toNat y111.ID) (wrap .i64 (y142+1))),((l109 ++ [(wrap .u8 y111.ID)])++(v154.map fun b=>(b.toNat:Int)))),h,Lg _,(rho [0,6]),Yq⟩
  refine Qi ?_;obtain ⟨hk158,h⟩:=Q66 h;refine Q37 (Xo (c:=(cI .u8)) (e:=1) (fun _=>rfl) sd hk158) ?_;refine J2 (c:=(cI .u8)) [(wrap .u8 y111.ID)] rfl ?_;refine cD h Q0o (.cons (.p _) (.cons q4 .nil)) fun v159 h=>?_;refine Qb0 (b:=v159) ?_;apply iU h<;>intro h
  ·show Exists _;exact ⟨(n0,(wrap .i64 (s107+1)),((l108:List Int).set (Int.toNat y111.ID) (wrap .i64 (y142+1))),(l109 ++ [(wrap .u8 y111.ID)])),h,Lg _,(rho [0,5]),Yq⟩
  obtain ⟨hk162,h⟩:=Q66 h;refine Q37 (Xo (c:=(cI .u8)) (e:=1) (l:=(l109 ++ [(wrap .u8 y111.ID)])) (fun _=>rfl) sd hk162) ?_;refine J2 (c:=(cI .u8)) (l:=(l109 ++ [(wrap .u8 y111.ID)])) (v159.map fun b=>(b.toNat:Int)) rfl ?_;show Exists _;exact ⟨(n0,(wrap .i64 (s107+1)),((l108:List Int).set (Int.toNat y111.ID) (wrap .i64 (y142+1))),((l109 ++ [(wrap .u8 y111.ID)])++(v159.map fun b=>(b.toNat:Int)))),h,Lg _,(rho [0,6]),Yq⟩
 refine Qe Z6w ?_;obtain ⟨y163,hy164,h⟩:=Q0m h;refine Q6j (c:=(cI .i64)) (e:=1) (n:=1) (j:=22) (fun _=>rfl) hy164 (off:=0) (by decide) rfl ?_;apply iU h<;>intro h
 ·obtain ⟨y166,hy167,h⟩:=Q0m h;refine Q6j (c:=(cI .i64)) (e:=1) (n:=1) (j:=21) (fun _=>rfl) hy167 (off:=0) (by decide) rfl ?_;refine iL2 h fun h=>?_;refine cP h Q1u p1 fun v169 h=>?_;refine iL2 h fun h=>?_;refine Qiz (l:=l109) (n:=l109.length) sd ?_;refine kU h fun h=>?_;obtain rfl:=Qt h;exact u2
 refine cP h Q1u p1 fun v173 h=>?_;refine iL2 h fun h=>?_;refine Qiz (l:=l109) (n:=l109.length) sd ?_;refine kU h fun h=>?_;obtain rfl:=Qt h;exact u2
def We (N:Nat) (kind:Int) (l:List Z8):Option Int:=
 (Q27 N kind l).bind fun v1=>
 some v1.2
theorem Qdq {N} {kind} {l} {r} (h:We N kind l=some r):pU 71 [.int .i64 kind,.slice 4 (Q8 Z8.cells l)] (.int .i64 r):=by
 refine Q3 k71 ?_;unfold We at h;refine cP h Qcm p2 fun v1 h=>?_;cases h;exact (.p _)
def Gv (_N:Nat) (l:Xd):Option Bool:=
 cond (Q5 .geq l.MaxPacket 16)
 (cond (Q5 .leq l.MaxPacket 1048576)
 (cond (Q5 .geq l.MaxDepth 0)
 (some (Q5 .leq l.MaxDepth 32))
 (some false))
 (some false))
 (some false)
theorem Qae {N} {l} {r} (h:Gv N l=some r):pU 153 [.agg (Xd.cells l)] (.bool r):=by
 refine Q3 Z7q ?_;unfold Gv at h;rw [cX] at h;refine iR h fun h=>?_;refine iR h fun h=>?_;exact iB h
def Ut (_N:Nat) (h_0:Wz):Option Bool:=
 cond (Q5 .geq h_0.Radius 0)
 (cond (Q5 .leq h_0.Radius 3)
 (cond (Q5 .geq (h_0.Node.length:Int) 1)
 (some (Q5 .leq (h_0.Node.length:Int) 32))
 (some false))
 (some false))
 (some false)
theorem Q7j {N} {h_0} {r} (h:Ut N h_0=some r):pU 156 [.agg (Wz.cells h_0)] (.bool r):=by
 refine Q3 Zd7 ?_;unfold Ut at h;rw [cX] at h;refine iR h fun h=>?_;refine iR h fun h=>?_;exact iB h
def Jg (N:Nat) (h_0:Wz):Option Bool:=
 (Ut N h_0).bind fun v1=>
 some (!v1)
theorem Q87 {N} {h_0} {r} (h:Jg N h_0=some r):pU 155 [.agg (Wz.cells h_0)] (.bool r):=by
 refine Q3 Z4h ?_;unfold Jg at h;refine cP h Q7j (.cons q2 .nil) fun v1 h=>?_;cases h;exact (.p _)
def Gm (_N:Nat) (f:Qv):Option (Int×Int):=
 cond (Q5 .lss f.QoS (-1))
 (some (0,7))
 (cond (Q5 .gtr f.QoS 2)
 (some (0,7))
 (cond (Q5 .lss f.Type' 0)
 (some (0,7))
 (cond (Q5 .gtr f.Type' 2)
 (some (0,7))
 (cond f.Clean
 (cond f.Will
 (cond f.Retain
 (cond f.Dup
 (some ((orI .i64 (orI .i64 (orI .i64 (orI .i64 (orI .i64 f.Type' 4) 8) 16) 128) (wrap .i64 ((Qan .i64 f.QoS 3) * 32))),0))
 (some ((orI .i64 (orI .i64 (orI .i64 (orI .i64 f.Type' 4) 8) 16) (wrap .i64 ((Qan .i64 f.QoS 3) * 32))),0)))
 (cond f.Dup
 (some ((orI .i64 (orI .i64 (orI .i64 (orI .i64 f.Type' 4) 8) 128) (wrap .i64 ((Qan .i64 f.QoS 3) * 32))),0))
 (some ((orI .i64 (orI .i64 (orI .i64 f.Type' 4) 8) (wrap .i64 ((Qan .i64 f.QoS 3) * 32))),0))))
 (cond f.Retain
 (cond f.Dup
 (some ((orI .i64 (orI .i64 (orI .i64 (orI .i64 f.Type' 4) 16) 128) (wrap .i64 ((Qan .i64 f.QoS 3) * 32))),0))
 (some ((orI .i64 (orI .i64 (orI .i64 f.Type' 4) 16) (wrap .i64 ((Qan .i64 f.QoS 3) * 32))),0)))
 (cond f.Dup
 (some ((orI .i64 (orI .i64 (orI .i64 f.Type' 4) 128) (wrap .i64 ((Qan .i64 f.QoS 3) * 32))),0))
 (some ((orI .i64 (orI .i64 f.Type' 4) (wrap .i64 ((Qan .i64 f.QoS 3) * 32))),0)))))
 (cond f.Will
 (cond f.Retain
 (cond f.Dup
 (some ((orI .i64 (orI .i64 (orI .i64 (orI .i64 f.Type' 8) 16) 128) (wrap .i64 ((Qan .i64 f.QoS 3) * 32))),0))
 (some ((orI .i64 (orI .i64 (orI .i64 f.Type' 8) 16) (wrap .i64 ((Qan .i64 f.QoS 3) * 32))),0)))
 (cond f.Dup
 (some ((orI .i64 (orI .i64 (orI .i64 f.Type' 8) 128) (wrap .i64 ((Qan .i64 f.QoS 3) * 32))),0))
 (some ((orI .i64 (orI .i64 f.Type' 8) (wrap .i64 ((Qan .i64 f.QoS 3) * 32))),0))))
 (cond f.Retain
 (cond f.Dup
 (some ((orI .i64 (orI .i64 (orI .i64 f.Type' 16) 128) (wrap .i64 ((Qan .i64 f.QoS 3) * 32))),0))
 (some ((orI .i64 (orI .i64 f.Type' 16) (wrap .i64 ((Qan .i64 f.QoS 3) * 32))),0)))
 (cond f.Dup
 (some ((orI .i64 (orI .i64 f.Type' 128) (wrap .i64 ((Qan .i64 f.QoS 3) * 32))),0))
 (some ((orI .i64 f.Type' (wrap .i64 ((Qan .i64 f.QoS 3) * 32))),0)))))))))
theorem Q5w {N} {f} {r} (h:Gm N f=some r):pU 248 [.agg (Qv.cells f)] (.tuple [.int .i64 r.1,.int .i64 r.2]):=by
 refine Q3 Z8h ?_;unfold Gm at h;rw [cX] at h;refine iL2 h fun h=>?_;refine iL2 h fun h=>?_;refine iL2 h fun h=>?_;refine iL2 h fun h=>?_;refine Qe Qjq ?_;apply iU h<;>intro h
 ·refine Qe Qjq ?_;apply iU h<;>intro h
  ·refine Qe Qjq ?_;apply iU h<;>intro h
   ·refine Qe Qjq ?_;exact iB2 h
   refine Qe Qjq ?_;exact iB2 h
  refine Qe Qjq ?_;apply iU h<;>intro h
  ·refine Qe Qjq ?_;exact iB2 h
  refine Qe Qjq ?_;exact iB2 h
 refine Qe Qjq ?_;apply iU h<;>intro h
 ·refine Qe Qjq ?_;apply iU h<;>intro h
  ·refine Qe Qjq ?_;exact iB2 h
  refine Qe Qjq ?_;exact iB2 h
 refine Qe Qjq ?_;apply iU h<;>intro h
 ·refine Qe Qjq ?_;exact iB2 h
 refine Qe Qjq ?_;exact iB2 h
def Zx (N:Nat) (c:Qg):Option ((Unit)×Qg):=
 (Gm N c.m.Flags).bind fun v1=>
 cond (Q5 .eql c.do' 2)
 (some ((),c))
 (cond (Q5 .eql c.do' 0)
 ((Q04 N []).bind fun v5=>
 some ((),c))
 (cond (Q5 .eql c.do' 1)
 ((Yf N (wrap .u64 v1.1) 1).bind fun v8=>
 cond (!(Nat.beq v8.length 0)) (cond (Nat.ble ((c.out.length+v8.length+4096) * 1) 17592186044416) (some ((),(⟨c.do',c.m,(c.out++(v8.map fun b=>(b.toNat:Int))),c.bad⟩:Qg))) none) none)
 (cond c.bad
 (some ((),(⟨c.do',c.m,c.out,true⟩:Qg)))
 (cond (Q5 .lss v1.1 0)
 (some ((),(⟨c.do',c.m,c.out,true⟩:Qg)))
 (some ((),(⟨c.do',c.m,c.out,(Q5 .geq v1.1 (Qh7 .i64 1 8))⟩:Qg)))))))
theorem Wl {N} {c} {r} (h:Zx N c=some r):gU 276 (.ptr 0 0 :: []) (.cells (Q5s c 1) :: .cells (Wt (cI .u8) c.out) :: []) (.tuple []) (.cells (Q5s r.2 2) :: .dead :: .cells (Wt (cI .u8) r.2.out) :: []):=by
 refine Ug Z7k (Lt rfl) ?_;unfold Zx at h;rw [cX] at h;refine cP h Q5w (.cons (Ar (.cons (.p _) p5)) .nil) fun v1 h=>?_;apply iU h<;>intro h
 ·obtain rfl:=Qt h;show Exists _;exact ⟨(rho [0,1,1]),Yq⟩
 refine Qe Z03 ?_;refine ifO h (fun hc4 h=>?_) (fun hc4 h=>?_)
 ·refine Qe Z08 ?_;refine Qe Qyn ?_;refine Qe Qyv ?_;refine cP h Q1x p1 fun v5 h=>?_;refine ifT hc4 ?_;refine Qe Z86 ?_;refine dF ?_;obtain rfl:=Qt h;show Exists _;exact ⟨(rho [0,1,1]),Yq⟩
 apply iU h<;>intro h
 ·refine Qi ?_;refine cD h Y4 p2 fun v8 h=>?_;refine Qb0 (b:=v8) ?_;obtain ⟨hk10,h⟩:=Q66 h;refine ifF (Qx4 hk10) ?_;obtain ⟨hk11,h⟩:=Q66 h;refine Q37 (Xo (c:=(cI .u8)) (e:=1) (l:=c.out) (fun _=>rfl) sd hk11) ?_;refine J2 (c:=(cI .u8)) (l:=c.out) (v8.map fun b=>(b.toNat:Int)) rfl ?_;refine ifF hc4 ?_;obtain rfl:=Qt h;show Exists _;exact ⟨(rho [0,1,3]),Yq⟩
 refine Qi ?_;apply iU h<;>intro h
 ·refine ifF hc4 ?_;obtain rfl:=Qt h;show Exists _;exact ⟨(rho [0,1,1]),Yq⟩
 apply iU h<;>intro h
 ·refine ifF hc4 ?_;obtain rfl:=Qt h;show Exists _;exact ⟨(rho [0,1,1]),Yq⟩
 refine ifF hc4 ?_;obtain rfl:=Qt h;show Exists _;exact ⟨(rho [0,1,1]),Yq⟩
def X2 (_N:Nat) (c:Qg):Option ((Unit)×Qg):=
 cond (Q5 .eql c.do' 0)
 (some ((),(⟨c.do',(⟨c.m.Type',c.m.Flags,c.m.Gateway,c.m.Radius,c.m.Time,c.m.Timed,c.m.TopicID,c.m.MsgID,c.m.Code,c.m.Name,[]⟩:Vi),c.out,c.bad⟩:Qg)))
 (cond (Q5 .eql c.do' 1)
 (cond (Nat.beq c.m.Data.length 0)
 (some ((),c))
 (cond (Nat.ble ((c.out.length+c.m.Data.length+4096) * 1) 17592186044416) (some ((),(⟨c.do',c.m,(c.out++(c.m.Data.map fun b=>(b.toNat:Int))),c.bad⟩:Qg))) none))
 (some ((),(⟨c.do',(⟨c.m.Type',c.m.Flags,c.m.Gateway,c.m.Radius,c.m.Time,c.m.Timed,c.m.TopicID,c.m.MsgID,c.m.Code,c.m.Name,[]⟩:Vi),c.out,c.bad⟩:Qg))))
theorem Gf {N} {c} {r} (h:X2 N c=some r):gU 280 (.ptr 0 0 :: []) (.cells (Q5s c 1) :: .cells (Wt (cI .u8) c.out) :: []) (.tuple []) (.cells (Q5s r.2 2) :: .dead :: .cells (Wt (cI .u8) r.2.out) :: []):=by
 refine Ug Z5y (Lt rfl) ?_;unfold X2 at h;rw [cX] at h;refine Qe Z40 ?_;apply iU h<;>intro h
 ·refine Qi ?_;refine Q89 [] (r:=iI 0) rfl rfl (fun a ha o ho=>?_) (Qe Zba ?_) ?_
  ·simp at ha
  ·refine Qe Z4x ?_;exact ⟨rfl,[],(Nn _).symm⟩
  refine Q89 [] (r:=iS []) rfl rfl (fun a ha o ho=>?_) (Qe Qyn ?_) ?_
  ·simp at ha
  ·refine Qe Qyv ?_;exact ⟨rfl,[],(Nn _).symm⟩
  obtain rfl:=Qt h;show Exists _;exact ⟨(rho [0,1,1]),Yq⟩
 apply iU h<;>intro h
 ·refine Qi ?_;refine Qb0 (b:=c.m.Data) ?_;apply iU h<;>intro h
  ·obtain rfl:=Qt h;show Exists _;exact ⟨(rho [0,1,1]),Yq⟩
  obtain ⟨hk4,h⟩:=Q66 h;refine Q37 (Xo (c:=(cI .u8)) (e:=1) (l:=c.out) (fun _=>rfl) sd hk4) ?_;refine J2 (c:=(cI .u8)) (l:=c.out) (c.m.Data.map fun b=>(b.toNat:Int)) rfl ?_;obtain rfl:=Qt h;show Exists _;exact ⟨(rho [0,1,2]),Yq⟩
 obtain rfl:=Qt h;show Exists _;exact ⟨(rho [0,1,1]),Yq⟩
def Yp (N:Nat) (c:Qg):Option ((Unit)×Qg):=
 cond (Q5 .eql c.do' 0)
 ((Q04 N []).bind fun v2=>
 some ((),(⟨c.do',(⟨c.m.Type',c.m.Flags,c.m.Gateway,c.m.Radius,c.m.Time,c.m.Timed,(wrap .i64 v2),c.m.MsgID,c.m.Code,c.m.Name,c.m.Data⟩:Vi),c.out,c.bad⟩:Qg)))
 (cond (Q5 .eql c.do' 1)
 ((Yf N (wrap .u64 c.m.TopicID) 2).bind fun v5=>
 cond (!(Nat.beq v5.length 0)) (cond (Nat.ble ((c.out.length+v5.length+4096) * 1) 17592186044416) (some ((),(⟨c.do',c.m,(c.out++(v5.map fun b=>(b.toNat:Int))),c.bad⟩:Qg))) none) none)
 (cond c.bad
 (some ((),(⟨c.do',(⟨c.m.Type',c.m.Flags,c.m.Gateway,c.m.Radius,c.m.Time,c.m.Timed,0,c.m.MsgID,c.m.Code,c.m.Name,c.m.Data⟩:Vi),c.out,true⟩:Qg)))
 (cond (Q5 .lss c.m.TopicID 0)
 (some ((),(⟨c.do',(⟨c.m.Type',c.m.Flags,c.m.Gateway,c.m.Radius,c.m.Time,c.m.Timed,0,c.m.MsgID,c.m.Code,c.m.Name,c.m.Data⟩:Vi),c.out,true⟩:Qg)))
 (some ((),(⟨c.do',(⟨c.m.Type',c.m.Flags,c.m.Gateway,c.m.Radius,c.m.Time,c.m.Timed,0,c.m.MsgID,c.m.Code,c.m.Name,c.m.Data⟩:Vi),c.out,(Q5 .geq c.m.TopicID (Qh7 .i64 1 16))⟩:Qg))))))
theorem Vs {N} {c} {r} (h:Yp N c=some r):gU 281 (.ptr 0 0 :: []) (.cells (Q5s c 1) :: .cells (Wt (cI .u8) c.out) :: []) (.tuple []) (.cells (Q5s r.2 2) :: .dead :: .cells (Wt (cI .u8) r.2.out) :: []):=by
 refine Ug Z3s (Lt rfl) ?_;unfold Yp at h;rw [cX] at h;refine Qe Z03 ?_;apply iU h<;>intro h
 ·refine Qe Z08 ?_;refine Qe Qyn ?_;refine Qe Qyv ?_;refine cP h Q1x p1 fun v2 h=>?_;obtain rfl:=Qt h;show Exists _;exact ⟨(rho [0,1,1]),Yq⟩
 apply iU h<;>intro h
 ·refine Qi ?_;refine cD h Y4 p2 fun v5 h=>?_;refine Qb0 (b:=v5) ?_;obtain ⟨hk7,h⟩:=Q66 h;refine ifF (Qx4 hk7) ?_;obtain ⟨hk8,h⟩:=Q66 h;refine Q37 (Xo (c:=(cI .u8)) (e:=1) (l:=c.out) (fun _=>rfl) sd hk8) ?_;refine J2 (c:=(cI .u8)) (l:=c.out) (v5.map fun b=>(b.toNat:Int)) rfl ?_;obtain rfl:=Qt h;show Exists _;exact ⟨(rho [0,1,2]),Yq⟩
 refine Qi ?_;apply iU h<;>intro h
 ·obtain rfl:=Qt h;show Exists _;exact ⟨(rho [0,1,1]),Yq⟩
 apply iU h<;>intro h
 ·obtain rfl:=Qt h;show Exists _;exact ⟨(rho [0,1,1]),Yq⟩
 obtain rfl:=Qt h;show Exists _;exact ⟨(rho [0,1,1]),Yq⟩
def Z4 (N:Nat) (c:Qg):Option ((Unit)×Qg):=
 cond (Q5 .eql c.do' 0)
 ((Q04 N []).bind fun v2=>
 some ((),(⟨c.do',(⟨c.m.Type',c.m.Flags,c.m.Gateway,c.m.Radius,c.m.Time,c.m.Timed,c.m.TopicID,(wrap .i64 v2),c.m.Code,c.m.Name,c.m.Data⟩:Vi),c.out,c.bad⟩:Qg)))
 (cond (Q5 .eql c.do' 1)
 ((Yf N (wrap .u64 c.m.MsgID) 2).bind fun v5=>
 cond (!(Nat.beq v5.length 0)) (cond (Nat.ble ((c.out.length+v5.length+4096) * 1) 17592186044416) (some ((),(⟨c.do',c.m,(c.out++(v5.map fun b=>(b.toNat:Int))),c.bad⟩:Qg))) none) none)
 (cond c.bad
 (some ((),(⟨c.do',(⟨c.m.Type',c.m.Flags,c.m.Gateway,c.m.Radius,c.m.Time,c.m.Timed,c.m.TopicID,0,c.m.Code,c.m.Name,c.m.Data⟩:Vi),c.out,true⟩:Qg)))
 (cond (Q5 .lss c.m.MsgID 0)
 (some ((),(⟨c.do',(⟨c.m.Type',c.m.Flags,c.m.Gateway,c.m.Radius,c.m.Time,c.m.Timed,c.m.TopicID,0,c.m.Code,c.m.Name,c.m.Data⟩:Vi),c.out,true⟩:Qg)))
 (some ((),(⟨c.do',(⟨c.m.Type',c.m.Flags,c.m.Gateway,c.m.Radius,c.m.Time,c.m.Timed,c.m.TopicID,0,c.m.Code,c.m.Name,c.m.Data⟩:Vi),c.out,(Q5 .geq c.m.MsgID (Qh7 .i64 1 16))⟩:Qg))))))
theorem Zq {N} {c} {r} (h:Z4 N c=some r):gU 282 (.ptr 0 0 :: []) (.cells (Q5s c 1) :: .cells (Wt (cI .u8) c.out) :: []) (.tuple []) (.cells (Q5s r.2 2) :: .dead :: .cells (Wt (cI .u8) r.2.out) :: []):=by
 refine Ug Z6b (Lt rfl) ?_;unfold Z4 at h;rw [cX] at h;refine Qe Z03 ?_;apply iU h<;>intro h
 ·refine Qe Z08 ?_;refine Qe Qyn ?_;refine Qe Qyv ?_;refine cP h Q1x p1 fun v2 h=>?_;obtain rfl:=Qt h;show Exists _;exact ⟨(rho [0,1,1]),Yq⟩
 apply iU h<;>intro h
 ·refine Qi ?_;refine cD h Y4 p2 fun v5 h=>?_;refine Qb0 (b:=v5) ?_;obtain ⟨hk7,h⟩:=Q66 h;refine ifF (Qx4 hk7) ?_;obtain ⟨hk8,h⟩:=Q66 h;refine Q37 (Xo (c:=(cI .u8)) (e:=1) (l:=c.out) (fun _=>rfl) sd hk8) ?_;refine J2 (c:=(cI .u8)) (l:=c.out) (v5.map fun b=>(b.toNat:Int)) rfl ?_;obtain rfl:=Qt h;show Exists _;exact ⟨(rho [0,1,2]),Yq⟩
 refine Qi ?_;apply iU h<;>intro h
 ·obtain rfl:=Qt h;show Exists _;exact ⟨(rho [0,1,1]),Yq⟩
 apply iU h<;>intro h
 ·obtain rfl:=Qt h;show Exists _;exact ⟨(rho [0,1,1]),Yq⟩
 obtain rfl:=Qt h;show Exists _;exact ⟨(rho [0,1,1]),Yq⟩
def Va (N:Nat) (c:Qg):Nat→Option ((Unit)×Qg)
 | 0=>none
 | n+1=>
  some ((),c)
def Yh (N:Nat) (c:Qg):Option ((Unit)×Qg):=
 cond (Q5 .eql c.m.Type' 0)
 (none)
 (cond (Q5 .eql c.m.Type' 1)
 (none)
 (cond (Q5 .eql c.m.Type' 2)
 (none)
 (cond (Q5 .eql c.m.Type' 4)
 ((Zx N c).bind fun v5=>
 none)
 (cond (Q5 .eql c.m.Type' 5)
 (none)
 (cond (Q5 .eql c.m.Type' 27)
 (none)
 (cond (Q5 .eql c.m.Type' 29)
 (none)
 (cond (Q5 .eql c.m.Type' 7)
 (none)
 (cond (Q5 .eql c.m.Type' 26)
 (none)
 (cond (Q5 .eql c.m.Type' 9)
 ((X2 N c).bind fun v13=>
 some ((),v13.2))
 (cond (Q5 .eql c.m.Type' 28)
 ((X2 N c).bind fun v16=>
 some ((),v16.2))
 (cond (Q5 .eql c.m.Type' 10)
 ((Yp N c).bind fun v19=>
 (Z4 N v19.2).bind fun v21=>
 none)
 (cond (Q5 .eql c.m.Type' 11)
 ((Yp N c).bind fun v24=>
 (Z4 N v24.2).bind fun v26=>
 none)
 (cond (Q5 .eql c.m.Type' 13)
 ((Yp N c).bind fun v29=>
 (Z4 N v29.2).bind fun v31=>
 none)
 (cond (Q5 .eql c.m.Type' 12)
 ((Zx N c).bind fun v34=>
 (Yp N v34.2).bind fun v36=>
 (Z4 N v36.2).bind fun v38=>
 (X2 N v38.2).bind fun v40=>
 some ((),v40.2))
 (cond (Q5 .eql c.m.Type' 14)
 ((Z4 N c).bind fun v43=>
 some ((),v43.2))
 (cond (Q5 .eql c.m.Type' 15)
 ((Z4 N c).bind fun v46=>
 some ((),v46.2))
 (cond (Q5 .eql c.m.Type' 16)
 ((Z4 N c).bind fun v49=>
 some ((),v49.2))
 (cond (Q5 .eql c.m.Type' 21)
 ((Z4 N c).bind fun v52=>
 some ((),v52.2))
 (cond (Q5 .eql c.m.Type' 18)
 ((Zx N c).bind fun v55=>
 (Z4 N v55.2).bind fun v57=>
 none)
 (cond (Q5 .eql c.m.Type' 20)
 ((Zx N c).bind fun v60=>
 (Z4 N v60.2).bind fun v62=>
 none)
 (cond (Q5 .eql c.m.Type' 19)
 ((Zx N c).bind fun v65=>
 (Yp N v65.2).bind fun v67=>
 (Z4 N v67.2).bind fun v69=>
 none)
 (cond (Q5 .eql c.m.Type' 22)
 (none)
 (cond (Q5 .eql c.m.Type' 24)
 (none)
 (Va N c N))))))))))))))))))))))))
theorem V9 {N} {c} {r} (h:Yh N c=some r):gU 220 (.ptr 0 0 :: []) (.cells (Q5s c 1) :: .cells (Wt (cI .u8) c.out) :: []) (.tuple []) (.cells (Q5s r.2 2) :: .dead :: .cells (Wt (cI .u8) r.2.out) :: []):=by
 refine Ug Z2w (Lt rfl) ?_;unfold Yh at h;rw [cX] at h;refine Qe Zea ?_;apply iU h<;>intro h
 ·refine Qy 2 ?_;refine dT ?_
  first | (cases h;done) | (simp [U6] at h;done)
 apply iU h<;>intro h
 ·refine Qy 2 ?_;refine dT ?_
  first | (cases h;done) | (simp [U6] at h;done)
 apply iU h<;>intro h
 ·refine Qy 2 ?_;refine dT ?_
  first | (cases h;done) | (simp [U6] at h;done)
 apply iU h<;>intro h
 ·refine Qy 3 ?_;refine dT ?_;refine cG h Wl fun v5 h=>?_;refine ⟨rho [0,1],(.cells (Q5s v5.2 3) :: .dead :: .cells (.func (.func 276) [.ptr 0 0] [] :: .func (.func 277) [.ptr 0 0] [] :: .func (.func 273) [.ptr 0 0] [] :: .func (.func 275) [.ptr 0 0] [] :: []) :: .cells (Wt (cI .u8) v5.2.out) :: []),.tuple [],gcQ,?_⟩;refine dT ?_
  first | (cases h;done) | (simp [U6] at h;done)
 refine ifO h (fun hc7 h=>?_) (fun hc7 h=>?_)
 ·refine ifT hc7 ?_;refine Qy 2 ?_;refine dT ?_
  first | (cases h;done) | (simp [U6] at h;done)
 refine ifO h (fun hc8 h=>?_) (fun hc8 h=>?_)
 ·refine ifT hc8 ?_;refine Qy 2 ?_;refine dT ?_
  first | (cases h;done) | (simp [U6] at h;done)
 apply iU h<;>intro h
 ·refine Qy 2 ?_;refine dT ?_
  first | (cases h;done) | (simp [U6] at h;done)
 refine ifO h (fun hc10 h=>?_) (fun hc10 h=>?_)
 ·refine ifT hc10 ?_;refine Qy 2 ?_;refine dT ?_
  first | (cases h;done) | (simp [U6] at h;done)
 apply iU h<;>intro h
 ·refine Qy 2 ?_;refine dT ?_
  first | (cases h;done) | (simp [U6] at h;done)
 refine ifO h (fun hc12 h=>?_) (fun hc12 h=>?_)
 ·refine ifT hc12 ?_;refine Qy 3 ?_;refine dT ?_;refine cG h Gf fun v13 h=>?_;refine ⟨rho [0,1],(.cells (Q5s v13.2 3) :: .dead :: .cells (.func (.func 280) [.ptr 0 0] [] :: []) :: .cells (Wt (cI .u8) v13.2.out) :: []),.tuple [],gcQ,?_⟩;refine dF ?_;obtain rfl:=Qt h;show Exists _;exact ⟨(rho [0,1,3]),Yq⟩
 apply iU h<;>intro h
 ·refine Qy 3 ?_;refine dT ?_;refine cG h Gf fun v16 h=>?_;refine ⟨rho [0,1],(.cells (Q5s v16.2 3) :: .dead :: .cells (.func (.func 280) [.ptr 0 0] [] :: []) :: .cells (Wt (cI .u8) v16.2.out) :: []),.tuple [],gcQ,?_⟩;refine dF ?_;obtain rfl:=Qt h;show Exists _;exact ⟨(rho [0,1,3]),Yq⟩
 apply iU h<;>intro h
 ·refine Qy 4 ?_;refine dT ?_;refine cG h Vs fun v19 h=>?_;refine ⟨rho [0,1],(.cells (Q5s v19.2 3) :: .dead :: .cells (.func (.func 281) [.ptr 0 0] [] :: .func (.func 282) [.ptr 0 0] [] :: .func (.func 275) [.ptr 0 0] [] :: []) :: .cells (Wt (cI .u8) v19.2.out) :: []),.tuple [],gcQ,?_⟩;refine dT ?_;refine cG h Zq fun v21 h=>?_;refine ⟨rho [0,3],(.cells (Q5s v21.2 4) :: .dead :: .cells (.func (.func 281) [.ptr 0 0] [] :: .func (.func 282) [.ptr 0 0] [] :: .func (.func 275) [.ptr 0 0] [] :: []) :: .dead :: .cells (Wt (cI .u8) v21.2.out) :: []),.tuple [],gcQ,?_⟩;refine dT ?_
  first | (cases h;done) | (simp [U6] at h;done)
 refine ifO h (fun hc23 h=>?_) (fun hc23 h=>?_)
 ·refine ifT hc23 ?_;refine Qy 4 ?_;refine dT ?_;refine cG h Vs fun v24 h=>?_;refine ⟨rho [0,1],(.cells (Q5s v24.2 3) :: .dead :: .cells (.func (.func 281) [.ptr 0 0] [] :: .func (.func 282) [.ptr 0 0] [] :: .func (.func 278) [.ptr 0 0] [] :: []) :: .cells (Wt (cI .u8) v24.2.out) :: []),.tuple [],gcQ,?_⟩;refine dT ?_;refine cG h Zq fun v26 h=>?_;refine ⟨rho [0,3],(.cells (Q5s v26.2 4) :: .dead :: .cells (.func (.func 281) [.ptr 0 0] [] :: .func (.func 282) [.ptr 0 0] [] :: .func (.func 278) [.ptr 0 0] [] :: []) :: .dead :: .cells (Wt (cI .u8) v26.2.out) :: []),.tuple [],gcQ,?_⟩;refine dT ?_
  first | (cases h;done) | (simp [U6] at h;done)
 apply iU h<;>intro h
 ·refine Qy 4 ?_;refine dT ?_;refine cG h Vs fun v29 h=>?_;refine ⟨rho [0,1],(.cells (Q5s v29.2 3) :: .dead :: .cells (.func (.func 281) [.ptr 0 0] [] :: .func (.func 282) [.ptr 0 0] [] :: .func (.func 278) [.ptr 0 0] [] :: []) :: .cells (Wt (cI .u8) v29.2.out) :: []),.tuple [],gcQ,?_⟩;refine dT ?_;refine cG h Zq fun v31 h=>?_;refine ⟨rho [0,3],(.cells (Q5s v31.2 4) :: .dead :: .cells (.func (.func 281) [.ptr 0 0] [] :: .func (.func 282) [.ptr 0 0] [] :: .func (.func 278) [.ptr 0 0] [] :: []) :: .dead :: .cells (Wt (cI .u8) v31.2.out) :: []),.tuple [],gcQ,?_⟩;refine dT ?_
  first | (cases h;done) | (simp [U6] at h;done)
 apply iU h<;>intro h
 ·refine Qy 6 ?_;refine dT ?_;refine cG h Wl fun v34 h=>?_;refine ⟨rho [0,1],(.cells (Q5s v34.2 3) :: .dead :: .cells (.func (.func 276) [.ptr 0 0] [] :: .func (.func 281) [.ptr 0 0] [] :: .func (.func 282) [.ptr 0 0] [] :: .func (.func 280) [.ptr 0 0] [] :: []) :: .cells (Wt (cI .u8) v34.2.out) :: []),.tuple [],gcQ,?_⟩;refine dT ?_;refine cG h Vs fun v36 h=>?_;refine ⟨rho [0,3],(.cells (Q5s v36.2 4) :: .dead :: .cells (.func (.func 276) [.ptr 0 0] [] :: .func (.func 281) [.ptr 0 0] [] :: .func (.func 282) [.ptr 0 0] [] :: .func (.func 280) [.ptr 0 0] [] :: []) :: .dead :: .cells (Wt (cI .u8) v36.2.out) :: []),.tuple [],gcQ,?_⟩;refine dT ?_;refine cG h Zq fun v38 h=>?_;refine ⟨rho [0,4],(.cells (Q5s v38.2 5) :: .dead :: .cells (.func (.func 276) [.ptr 0 0] [] :: .func (.func 281) [.ptr 0 0] [] :: .func (.func 282) [.ptr 0 0] [] :: .func (.func 280) [.ptr 0 0] [] :: []) :: .dead :: .dead :: .cells (Wt (cI .u8) v38.2.out) :: []),.tuple [],gcQ,?_⟩;refine dT ?_;refine cG h Gf fun v40 h=>?_;refine ⟨rho [0,5],(.cells (Q5s v40.2 6) :: .dead :: .cells (.func (.func 276) [.ptr 0 0] [] :: .func (.func 281) [.ptr 0 0] [] :: .func (.func 282) [.ptr 0 0] [] :: .func (.func 280) [.ptr 0 0] [] :: []) :: .dead :: .dead :: .dead :: .cells (Wt (cI .u8) v40.2.out) :: []),.tuple [],gcQ,?_⟩;refine dF ?_;obtain rfl:=Qt h;show Exists _;exact ⟨(rho [0,1,6]),Yq⟩
 refine ifO h (fun hc42 h=>?_) (fun hc42 h=>?_)
 ·refine ifT hc42 ?_;refine Qy 3 ?_;refine dT ?_;refine cG h Zq fun v43 h=>?_;refine ⟨rho [0,1],(.cells (Q5s v43.2 3) :: .dead :: .cells (.func (.func 282) [.ptr 0 0] [] :: []) :: .cells (Wt (cI .u8) v43.2.out) :: []),.tuple [],gcQ,?_⟩;refine dF ?_;obtain rfl:=Qt h;show Exists _;exact ⟨(rho [0,1,3]),Yq⟩
 refine ifO h (fun hc45 h=>?_) (fun hc45 h=>?_)
 ·refine ifT hc45 ?_;refine Qy 3 ?_;refine dT ?_;refine cG h Zq fun v46 h=>?_;refine ⟨rho [0,1],(.cells (Q5s v46.2 3) :: .dead :: .cells (.func (.func 282) [.ptr 0 0] [] :: []) :: .cells (Wt (cI .u8) v46.2.out) :: []),.tuple [],gcQ,?_⟩;refine dF ?_;obtain rfl:=Qt h;show Exists _;exact ⟨(rho [0,1,3]),Yq⟩
 refine ifO h (fun hc48 h=>?_) (fun hc48 h=>?_)
 ·refine ifT hc48 ?_;refine Qy 3 ?_;refine dT ?_;refine cG h Zq fun v49 h=>?_;refine ⟨rho [0,1],(.cells (Q5s v49.2 3) :: .dead :: .cells (.func (.func 282) [.ptr 0 0] [] :: []) :: .cells (Wt (cI .u8) v49.2.out) :: []),.tuple [],gcQ,?_⟩;refine dF ?_;obtain rfl:=Qt h;show Exists _;exact ⟨(rho [0,1,3]),Yq⟩
 apply iU h<;>intro h
 ·refine Qy 3 ?_;refine dT ?_;refine cG h Zq fun v52 h=>?_;refine ⟨rho [0,1],(.cells (Q5s v52.2 3) :: .dead :: .cells (.func (.func 282) [.ptr 0 0] [] :: []) :: .cells (Wt (cI .u8) v52.2.out) :: []),.tuple [],gcQ,?_⟩;refine dF ?_;obtain rfl:=Qt h;show Exists _;exact ⟨(rho [0,1,3]),Yq⟩
 refine ifO h (fun hc54 h=>?_) (fun hc54 h=>?_)
 ·refine ifT hc54 ?_;refine Qy 4 ?_;refine dT ?_;refine cG h Wl fun v55 h=>?_;refine ⟨rho [0,1],(.cells (Q5s v55.2 3) :: .dead :: .cells (.func (.func 276) [.ptr 0 0] [] :: .func (.func 282) [.ptr 0 0] [] :: .func (.func 283) [.ptr 0 0] [] :: []) :: .cells (Wt (cI .u8) v55.2.out) :: []),.tuple [],gcQ,?_⟩;refine dT ?_;refine cG h Zq fun v57 h=>?_;refine ⟨rho [0,3],(.cells (Q5s v57.2 4) :: .dead :: .cells (.func (.func 276) [.ptr 0 0] [] :: .func (.func 282) [.ptr 0 0] [] :: .func (.func 283) [.ptr 0 0] [] :: []) :: .dead :: .cells (Wt (cI .u8) v57.2.out) :: []),.tuple [],gcQ,?_⟩;refine dT ?_
  first | (cases h;done) | (simp [U6] at h;done)
 apply iU h<;>intro h
 ·refine Qy 4 ?_;refine dT ?_;refine cG h Wl fun v60 h=>?_;refine ⟨rho [0,1],(.cells (Q5s v60.2 3) :: .dead :: .cells (.func (.func 276) [.ptr 0 0] [] :: .func (.func 282) [.ptr 0 0] [] :: .func (.func 283) [.ptr 0 0] [] :: []) :: .cells (Wt (cI .u8) v60.2.out) :: []),.tuple [],gcQ,?_⟩;refine dT ?_;refine cG h Zq fun v62 h=>?_;refine ⟨rho [0,3],(.cells (Q5s v62.2 4) :: .dead :: .cells (.func (.func 276) [.ptr 0 0] [] :: .func (.func 282) [.ptr 0 0] [] :: .func (.func 283) [.ptr 0 0] [] :: []) :: .dead :: .cells (Wt (cI .u8) v62.2.out) :: []),.tuple [],gcQ,?_⟩;refine dT ?_
  first | (cases h;done) | (simp [U6] at h;done)
 apply iU h<;>intro h
 ·refine Qy 5 ?_;refine dT ?_;refine cG h Wl fun v65 h=>?_;refine ⟨rho [0,1],(.cells (Q5s v65.2 3) :: .dead :: .cells (.func (.func 276) [.ptr 0 0] [] :: .func (.func 281) [.ptr 0 0] [] :: .func (.func 282) [.ptr 0 0] [] :: .func (.func 278) [.ptr 0 0] [] :: []) :: .cells (Wt (cI .u8) v65.2.out) :: []),.tuple [],gcQ,?_⟩;refine dT ?_;refine cG h Vs fun v67 h=>?_;refine ⟨rho [0,3],(.cells (Q5s v67.2 4) :: .dead :: .cells (.func (.func 276) [.ptr 0 0] [] :: .func (.func 281) [.ptr 0 0] [] :: .func (.func 282) [.ptr 0 0] [] :: .func (.func 278) [.ptr 0 0] [] :: []) :: .dead :: .cells (Wt (cI .u8) v67.2.out) :: []),.tuple [],gcQ,?_⟩;refine dT ?_;refine cG h Zq fun v69 h=>?_;refine ⟨rho [0,4],(.cells (Q5s v69.2 5) :: .dead :: .cells (.func (.func 276) [.ptr 0 0] [] :: .func (.func 281) [.ptr 0 0] [] :: .func (.func 282) [.ptr 0 0] [] :: .func (.func 278) [.ptr 0 0] [] :: []) :: .dead :: .dead :: .cells (Wt (cI .u8) v69.2.out) :: []),.tuple [],gcQ,?_⟩;refine dT ?_
  first | (cases h;done) | (simp [U6] at h;done)
 apply iU h<;>intro h
 ·refine Qy 2 ?_;refine dT ?_
  first | (cases h;done) | (simp [U6] at h;done)
 apply iU h<;>intro h
 ·refine Qy 2 ?_;refine dT ?_
  first | (cases h;done) | (simp [U6] at h;done)
 refine lpH (τ:=Unit) (fun _=>(a4 (.any :: .p .nilSlice::iI 0::iI 0::a4 (a2 ([]))):List AV)) (fun n0 ⟨⟩=>Va N c n0) () h fun n0 ⟨⟩ h=>?_
 first | rw [Va] at h | simp only [Va] at h
 refine dF ?_;obtain rfl:=Qt h;show Exists _;exact ⟨(rho [0,1,1]),Yq⟩
def Uy (N:Nat) (m:Vi):Option (List UInt8):=
 (Yh N (⟨1,m,[],false⟩:Qg)).bind fun v1=>
 some (v1.2.out.map fun n=>UInt8.ofNat n.toNat)
theorem Q0s {N} {m} {r} (h:Uy N m=some r):pU 196 [.agg (Vi.cells m)] (.str r):=by
 refine Q3 Z7m ?_;unfold Uy at h;refine cG h V9 fun v1 h=>?_;refine ⟨rho [1,3],(.cells (Qfh m ([])) :: .cells (Q5s v1.2 2) :: .cells (Wt (cI .u8) v1.2.out) :: []),.tuple [],⟨(rE rfl <| rN),(hC rfl (rE rfl <| rE rfl <| rE rfl <| rE rfl <| rE rfl <| rE rfl <| rE rfl <| rE rfl <| rE rfl <| rE rfl <| rE rfl <| rE rfl <| rE rfl <| rE rfl <| rE rfl <| rE rfl <| rE rfl <| rE rfl <| rS <| rE rfl <| rN) <| hV lb <| hN),rfl,rfl,(roE rfl <| roE (Q0y _ _ _) <| roN),rfl,(fK rfl rfl <| fR 0 rfl rfl rfl rfl <| fO 2 rfl rfl rfl <| fN),rfl⟩,?_⟩;refine Qiz (l:=v1.2.out) (n:=v1.2.out.length) sd ?_;cases h;exact (.p _)
def Jj (_N:Nat) (kind:Int):Option Bool:=
 cond (Q5 .eql kind 3)
 (some false)
 (cond (Q5 .eql kind 17)
 (some false)
 (cond (Q5 .eql kind 25)
 (some false)
 (cond (Q5 .eql kind 254)
 (some true)
 (cond (Q5 .geq kind 0)
 (some (Q5 .leq kind 29))
 (some false)))))
theorem Q4e {N} {kind} {r} (h:Jj N kind=some r):pU 224 [.int .i64 kind] (.bool r):=by
 refine Q3 Za6 ?_;unfold Jj at h;rw [cX] at h;refine ifO h (fun hc1 h=>?_) (fun hc1 h=>?_)
 ·refine ifT hc1 ?_;cases h;exact (.p _)
 refine ifO h (fun hc2 h=>?_) (fun hc2 h=>?_)
 ·refine ifT hc2 ?_;cases h;exact (.p _)
 refine iL h fun h=>?_;refine iL h fun h=>?_;exact iB h
def Wr (N:Nat) (kind:Int) (rest:Int):Option ((List UInt8)×Int):=
 (Jj N kind).bind fun v1=>
 cond (!v1)
 (some ([],8))
 (cond (Q5 .lss rest 0)
 (some ([],2))
 (cond (Q5 .gtr rest 65531)
 (some ([],4))
 (cond (Q5 .leq (wrap .i64 (rest+2)) 255)
 ((Yf N (wrap .u64 (wrap .i64 (rest+2))) 1).bind fun v7=>
 (Yf N (wrap .u64 kind) 1).bind fun v9=>
 cond (Nat.ble (v7.length+v9.length) 4611686018427387904) (some ((v7++v9),0)) none)
 ((Yf N 1 1).bind fun v12=>
 (Yf N (wrap .u64 (wrap .i64 (rest+4))) 2).bind fun v14=>
 cond (Nat.ble (v12.length+v14.length) 4611686018427387904) ((Yf N (wrap .u64 kind) 1).bind fun v17=>
 cond (Nat.ble ((v12++v14).length+v17.length) 4611686018427387904) (some (((v12++v14)++v17),0)) none) none))))
theorem Gk {N} {kind} {rest} {r} (h:Wr N kind rest=some r):pU 197 [.int .i64 kind,.int .i64 rest] (.tuple [.str r.1,.int .i64 r.2]):=by
 refine Q3 Zap ?_;unfold Wr at h;rw [cX] at h;refine cP h Q4e p1 fun v1 h=>?_;refine iL2 h fun h=>?_;refine iL2 h fun h=>?_;refine iL2 h fun h=>?_;apply iU h<;>intro h
 ·refine cP h Y4 p2 fun v7 h=>?_;refine cP h Y4 p2 fun v9 h=>?_;refine kU h fun h=>?_;obtain rfl:=Qt h;exact u2
 refine cP h Y4 p2 fun v12 h=>?_;refine cP h Y4 p2 fun v14 h=>?_;refine kU h fun h=>?_;refine cP h Y4 p2 fun v17 h=>?_;refine kU h fun h=>?_;obtain rfl:=Qt h;exact u2
def Q17 (N:Nat) (kind:Int):Option Bool:=
 (Jj N kind).bind fun v1=>
 cond v1
 (some (Q5 .neq kind 254))
 (some false)
theorem Q9j {N} {kind} {r} (h:Q17 N kind=some r):pU 217 [.int .i64 kind] (.bool r):=by
 refine Q3 Z9c ?_;unfold Q17 at h;rw [cX] at h;refine cP h Q4e p1 fun v1 h=>?_;exact iB h
def Q0x (_N:Nat) (kind:Int):Option (Qv):=
 cond (Q5 .eql kind 4)
 (some (⟨false,0,false,true,true,0⟩:Qv))
 (cond (Q5 .eql kind 7)
 (some (⟨false,1,true,false,false,0⟩:Qv))
 (cond (Q5 .eql kind 26)
 (some (⟨false,1,true,false,false,0⟩:Qv))
 (cond (Q5 .eql kind 19)
 (some (⟨false,1,false,false,false,0⟩:Qv))
 (cond (Q5 .eql kind 12)
 (some (⟨true,1,true,false,false,1⟩:Qv))
 (cond (Q5 .eql kind 18)
 (some (⟨true,1,false,false,false,1⟩:Qv))
 (cond (Q5 .eql kind 20)
 (some (⟨false,0,false,false,false,1⟩:Qv))
 (some (⟨false,0,false,false,false,0⟩:Qv))))))))
theorem Qbd {N} {kind} {r} (h:Q0x N kind=some r):pU 249 [.int .i64 kind] (.agg (Qv.cells r)):=by
 refine Q3 Za3 ?_;unfold Q0x at h;rw [cX] at h;apply iU h<;>intro h
 ·show Frz _ _ _ _;obtain rfl:=Qt h;exact (Ar (.cons (.p _) p5))
 refine ifO h (fun hc2 h=>?_) (fun hc2 h=>?_)
 ·refine ifT hc2 ?_;show Frz _ _ _ _;obtain rfl:=Qt h;exact (Ar (.cons (.p _) p5))
 apply iU h<;>intro h
 ·show Frz _ _ _ _;obtain rfl:=Qt h;exact (Ar (.cons (.p _) p5))
 apply iU h<;>intro h
 ·show Frz _ _ _ _;obtain rfl:=Qt h;exact (Ar (.cons (.p _) p5))
 apply iU h<;>intro h
 ·show Frz _ _ _ _;obtain rfl:=Qt h;exact (Ar (.cons (.p _) p5))
 apply iU h<;>intro h
 ·show Frz _ _ _ _;obtain rfl:=Qt h;exact (Ar (.cons (.p _) p5))
 apply iU h<;>intro h
 ·show Frz _ _ _ _;obtain rfl:=Qt h;exact (Ar (.cons (.p _) p5))
 show Frz _ _ _ _;obtain rfl:=Qt h;exact (Ar (.cons (.p _) p5))
def Js (_N:Nat) (c15:Bool) (c18:Int) (c21:Bool) (c24:Bool) (c27:Bool) (c30:Int):Option Bool:=
 some (((c15:Bool) == false)&&(((c18:Int) == 0)&&(((c21:Bool) == false)&&(((c24:Bool) == false)&&(((c27:Bool) == false)&&(((c30:Int) == 0)&&true))))))
def Jv (N:Nat) (f:Qv) (v12:Qv) (c15:Bool) (c18:Int) (c21:Bool) (c24:Bool) (c27:Bool):Option Bool:=
 cond (Q5 .eql v12.Type' 1)
 (Js N c15 c18 c21 c24 c27 0)
 (Js N c15 c18 c21 c24 c27 f.Type')
def G5 (N:Nat) (f:Qv) (v12:Qv) (c15:Bool) (c18:Int) (c21:Bool) (c24:Bool):Option Bool:=
 cond v12.Clean
 (Jv N f v12 c15 c18 c21 c24 false)
 (Jv N f v12 c15 c18 c21 c24 f.Clean)
def Jz (N:Nat) (f:Qv) (v12:Qv) (c15:Bool) (c18:Int) (c21:Bool):Option Bool:=
 cond v12.Will
 (G5 N f v12 c15 c18 c21 false)
 (G5 N f v12 c15 c18 c21 f.Will)
def Ge (N:Nat) (f:Qv) (v12:Qv) (c15:Bool) (c18:Int):Option Bool:=
 cond v12.Retain
 (Jz N f v12 c15 c18 false)
 (Jz N f v12 c15 c18 f.Retain)
def G6 (N:Nat) (f:Qv) (v12:Qv) (c15:Bool):Option Bool:=
 cond (Q5 .eql v12.QoS 1)
 (Ge N f v12 c15 0)
 (Ge N f v12 c15 f.QoS)
def Jr (N:Nat) (kind:Int) (f:Qv) (s9:Bool):Option Bool:=
 cond s9
 (some false)
 ((Q0x N kind).bind fun v12=>
 cond v12.Dup
 (G6 N f v12 false)
 (G6 N f v12 f.Dup))
def Q3w (N:Nat) (kind:Int) (f:Qv):Option Bool:=
 (Gm N f).bind fun v1=>
 cond (Q5 .neq v1.2 0)
 (some false)
 (cond (Q5 .lss f.QoS 0)
 (Jr N kind f (Q5 .neq kind 12))
 (Jr N kind f false))
theorem Qda {N} {kind} {f} {r} (h:Q3w N kind f=some r):pU 218 [.int .i64 kind,.agg (Qv.cells f)] (.bool r):=by
 refine Q3 Za9 ?_;unfold Q3w at h;rw [cX] at h;refine cP h Q5w (.cons (Ar (.cons (.p _) p5)) .nil) fun v1 h=>?_;refine iL h fun h=>?_;refine Qbh ?_;refine jrH (r:=r) (σ:=Bool) (fun s9=>(iI kind :: .any :: .any :: .ptr 0 0::a16 (.any :: .p (.bool s9)::a16 (a8 (.any :: []))):List AV)) (fun s9=>Jr N kind f s9) ?_ ?_
 ·apply iU h<;>intro h
  ·show Exists _;exact ⟨((Qlt .neq kind 12)),h,(fun i=>i),Yq⟩
  show Exists _;exact ⟨(false),h,(fun i=>i),Yq⟩
 rintro s9 h
 unfold Jr at h;refine iL h fun h=>?_;refine cP h Qbd p1 fun v12 h=>?_;refine jrA (r:=r) (σ:=Bool) (fun _=>(a2 (.any :: .ptr 0 0::a2 (.any :: .ptr 1 0::a16 (a16 (a4 (a2 (.any :: [])))))):List AV)) (fun c15=>(.cells (.p (.bool c15)::iI f.QoS :: .p (.bool f.Retain) :: .p (.bool f.Will) :: .p (.bool f.Clean)::iI f.Type' :: []) :: .cells (Q72 v12 ([])) :: []:List AObj)) (fun c15=>G6 N f v12 c15) ?_ ?_
 ·apply iU h<;>intro h
  ·show Exists _;exact ⟨(false),h,(fun i=>i),Yq⟩
  show Exists _;exact ⟨(f.Dup),h,(fun i=>i),Yq⟩
 rintro c15 h
 unfold G6 at h;rw [cX] at h;refine jrA (r:=r) (σ:=Int) (fun _=>(a2 (.any :: .ptr 0 0::a2 (.any :: .ptr 1 0::a16 (a16 (a4 (a2 (.any :: [])))))):List AV)) (fun c18=>(.cells (.p (.bool c15)::iI c18 :: .p (.bool f.Retain) :: .p (.bool f.Will) :: .p (.bool f.Clean)::iI f.Type' :: []) :: .cells (Q72 v12 ([])) :: []:List AObj)) (fun c18=>Ge N f v12 c15 c18) ?_ ?_
 ·apply iU h<;>intro h
  ·show Exists _;exact ⟨(0),h,(fun i=>i),Yq⟩
  show Exists _;exact ⟨(f.QoS),h,(fun i=>i),Yq⟩
 rintro c18 h
 unfold Ge at h;refine jrA (r:=r) (σ:=Bool) (fun _=>(a2 (.any :: .ptr 0 0::a2 (.any :: .ptr 1 0::a16 (a16 (a4 (a2 (.any :: [])))))):List AV)) (fun c21=>(.cells (.p (.bool c15)::iI c18 :: .p (.bool c21) :: .p (.bool f.Will) :: .p (.bool f.Clean)::iI f.Type' :: []) :: .cells (Q72 v12 ([])) :: []:List AObj)) (fun c21=>Jz N f v12 c15 c18 c21) ?_ ?_
 ·apply iU h<;>intro h
  ·show Exists _;exact ⟨(false),h,(fun i=>i),Yq⟩
  show Exists _;exact ⟨(f.Retain),h,(fun i=>i),Yq⟩
 rintro c21 h
 unfold Jz at h;refine jrA (r:=r) (σ:=Bool) (fun _=>(a2 (.any :: .ptr 0 0::a2 (.any :: .ptr 1 0::a16 (a16 (a4 (a2 (.any :: [])))))):List AV)) (fun c24=>(.cells (.p (.bool c15)::iI c18 :: .p (.bool c21) :: .p (.bool c24) :: .p (.bool f.Clean)::iI f.Type' :: []) :: .cells (Q72 v12 ([])) :: []:List AObj)) (fun c24=>G5 N f v12 c15 c18 c21 c24) ?_ ?_
 ·apply iU h<;>intro h
  ·show Exists _;exact ⟨(false),h,(fun i=>i),Yq⟩
  show Exists _;exact ⟨(f.Will),h,(fun i=>i),Yq⟩
 rintro c24 h
 unfold G5 at h;refine jrA (r:=r) (σ:=Bool) (fun _=>(a2 (.any :: .ptr 0 0::a2 (.any :: .ptr 1 0::a16 (a16 (a4 (a2 (.any :: [])))))):List AV)) (fun c27=>(.cells (.p (.bool c15)::iI c18 :: .p (.bool c21) :: .p (.bool c24) :: .p (.bool c27)::iI f.Type' :: []) :: .cells (Q72 v12 ([])) :: []:List AObj)) (fun c27=>Jv N f v12 c15 c18 c21 c24 c27) ?_ ?_
 ·apply iU h<;>intro h
  ·show Exists _;exact ⟨(false),h,(fun i=>i),Yq⟩
  show Exists _;exact ⟨(f.Clean),h,(fun i=>i),Yq⟩
 rintro c27 h
 unfold Jv at h;rw [cX] at h;refine jrA (r:=r) (σ:=Int) (fun _=>(a2 (.any :: .ptr 0 0::a16 (a16 (a8 (a2 (.any :: []))))):List AV)) (fun c30=>(.cells (.p (.bool c15)::iI c18 :: .p (.bool c21) :: .p (.bool c24) :: .p (.bool c27)::iI c30 :: []) :: .cells (Q72 v12 ([])) :: []:List AObj)) (fun c30=>Js N c15 c18 c21 c24 c27 c30) ?_ ?_
 ·apply iU h<;>intro h
  ·show Exists _;exact ⟨(0),h,(fun i=>i),Yq⟩
  show Exists _;exact ⟨(f.Type'),h,(fun i=>i),Yq⟩
 rintro c30 h
 unfold Js at h;cases h;exact (.p _)
def Q3u (_N:Nat) (kind:Int):Option Bool:=
 cond (Q5 .eql kind 7)
 (some true)
 (some (Q5 .eql kind 26))
theorem Qdb {N} {kind} {r} (h:Q3u N kind=some r):pU 219 [.int .i64 kind] (.bool r):=by
 refine Q3 Z6o ?_;unfold Q3u at h;rw [cX] at h;exact iB h
def Ja (_N:Nat) (m:Vi):Option Bool:=
 cond (Q5 .eql m.Type' 10)
 (some (Q5 .neq m.MsgID 0))
 (cond (Q5 .eql m.Type' 14)
 (some (Q5 .neq m.MsgID 0))
 (cond (Q5 .eql m.Type' 15)
 (some (Q5 .neq m.MsgID 0))
 (cond (Q5 .eql m.Type' 16)
 (some (Q5 .neq m.MsgID 0))
 (cond (Q5 .eql m.Type' 21)
 (some (Q5 .neq m.MsgID 0))
 (cond (Q5 .eql m.Type' 18)
 (some (Q5 .neq m.MsgID 0))
 (cond (Q5 .eql m.Type' 20)
 (some (Q5 .neq m.MsgID 0))
 (cond (Q5 .eql m.Type' 12)
 (some ((Q5 .neq m.MsgID 0) == (Q5 .gtr m.Flags.QoS 0)))
 (some true))))))))
theorem Q2f {N} {m} {r} (h:Ja N m=some r):pU 221 [.agg (Vi.cells m)] (.bool r):=by
 refine Q3 Z4k ?_;unfold Ja at h;rw [cX] at h;refine ifO h (fun hc1 h=>?_) (fun hc1 h=>?_)
 ·refine ifT hc1 ?_;cases h;exact (.p _)
 refine ifO h (fun hc2 h=>?_) (fun hc2 h=>?_)
 ·refine ifT hc2 ?_;cases h;exact (.p _)
 refine ifO h (fun hc3 h=>?_) (fun hc3 h=>?_)
 ·refine ifT hc3 ?_;cases h;exact (.p _)
 refine ifO h (fun hc4 h=>?_) (fun hc4 h=>?_)
 ·refine ifT hc4 ?_;cases h;exact (.p _)
 refine ifO h (fun hc5 h=>?_) (fun hc5 h=>?_)
 ·refine ifT hc5 ?_;cases h;exact (.p _)
 refine ifO h (fun hc6 h=>?_) (fun hc6 h=>?_)
 ·refine ifT hc6 ?_;cases h;exact (.p _)
 refine iL h fun h=>?_;exact iB h
def Uz (N:Nat) (id:Int):Option ((List UInt8)×Bool):=
 cond (Q5 .lss id 0)
 (some ([],false))
 (cond (Q5 .gtr id 65535)
 (some ([],false))
 ((Yf N (wrap .u64 id) 2).bind fun v3=>
 (Yx N v3).bind fun v5=>
 cond (!v5)
 (some ([],false))
 (some (v3,true))))
theorem Q0w {N} {id} {r} (h:Uz N id=some r):pU 251 [.int .i64 id] (.tuple [.str r.1,.bool r.2]):=by
 refine Q3 Z2h ?_;unfold Uz at h;rw [cX] at h;refine iL2 h fun h=>?_;refine iL2 h fun h=>?_;refine cP h Y4 p2 fun v3 h=>?_;refine cP h Xn p1 fun v5 h=>?_;exact iB2 h
def Vt (N:Nat) (m:Vi):Option Int:=
 cond (Q5 .eql m.Type' 18)
 (cond (Q5 .eql m.Flags.Type' 0)
 (some 0)
 (cond (Q5 .eql m.Flags.Type' 2)
 ((Uz N m.TopicID).bind fun v4=>
 cond (!v4.2)
 (some 10)
 (some 0))
 (cond (Q5 .lss m.TopicID 1)
 (some 2)
 (cond (Q5 .gtr m.TopicID 65534)
 (some 2)
 (some 0)))))
 (cond (Q5 .eql m.Type' 20)
 (cond (Q5 .eql m.Flags.Type' 0)
 (some 0)
 (cond (Q5 .eql m.Flags.Type' 2)
 ((Uz N m.TopicID).bind fun v12=>
 cond (!v12.2)
 (some 10)
 (some 0))
 (cond (Q5 .lss m.TopicID 1)
 (some 2)
 (cond (Q5 .gtr m.TopicID 65534)
 (some 2)
 (some 0)))))
 (cond (Q5 .eql m.Type' 12)
 (cond (Q5 .eql m.Flags.Type' 2)
 ((Uz N m.TopicID).bind fun v19=>
 cond (!v19.2)
 (some 10)
 (some 0))
 (cond (Q5 .lss m.TopicID 1)
 (some 2)
 (cond (Q5 .gtr m.TopicID 65534)
 (some 2)
 (some 0))))
 (cond (Q5 .eql m.Type' 10)
 (cond (Q5 .eql m.Flags.Type' 2)
 ((Uz N m.TopicID).bind fun v26=>
 cond (!v26.2)
 (some 10)
 (some 0))
 (cond (Q5 .lss m.TopicID 1)
 (some 2)
 (cond (Q5 .gtr m.TopicID 65534)
 (some 2)
 (some 0))))
 (some 0))))
theorem Q1d {N} {m} {r} (h:Vt N m=some r):pU 222 [.agg (Vi.cells m)] (.int .i64 r):=by
 refine Q3 Zax ?_;unfold Vt at h;rw [cX] at h;refine ifO h (fun hc1 h=>?_) (fun hc1 h=>?_)
 ·refine ifT hc1 ?_;refine iL h fun h=>?_;apply iU h<;>intro h
  ·refine cP h Q0w p1 fun v4 h=>?_;exact iB h
  refine iL h fun h=>?_;exact iB h
 apply iU h<;>intro h
 ·refine iL h fun h=>?_;apply iU h<;>intro h
  ·refine cP h Q0w p1 fun v12 h=>?_;exact iB h
  refine iL h fun h=>?_;exact iB h
 refine ifO h (fun hc17 h=>?_) (fun hc17 h=>?_)
 ·refine ifT hc17 ?_;apply iU h<;>intro h
  ·refine cP h Q0w p1 fun v19 h=>?_;exact iB h
  refine iL h fun h=>?_;exact iB h
 refine iR h fun h=>?_;apply iU h<;>intro h
 ·refine cP h Q0w p1 fun v26 h=>?_;exact iB h
 refine iL h fun h=>?_;exact iB h
def Gc (N:Nat) (m:Vi):Option Int:=
 cond (Q5 .eql m.Type' 4)
 (cond (Q0k .neq m.Name [])
 (cond (Q5 .leq (m.Name.length:Int) 23)
 ((Xa N m.Name).bind fun v4=>
 cond v4
 (some 0)
 (some 6))
 (some 6))
 (some 6))
 (cond (Q5 .eql m.Type' 22)
 (cond (Q5 .leq (m.Name.length:Int) 23)
 ((Xa N m.Name).bind fun v9=>
 cond v9
 (some 0)
 (some 6))
 (some 6))
 (cond (Q5 .eql m.Type' 10)
 ((Yx N m.Name).bind fun v13=>
 cond v13
 (some 0)
 (some 10))
 (cond (Q5 .eql m.Type' 7)
 (cond (Q0k .eql m.Name [])
 (some 0)
 ((Yx N m.Name).bind fun v18=>
 cond v18
 (some 0)
 (some 10)))
 (cond (Q5 .eql m.Type' 26)
 (cond (Q0k .eql m.Name [])
 (some 0)
 ((Yx N m.Name).bind fun v23=>
 cond v23
 (some 0)
 (some 10)))
 (cond (Q5 .eql m.Type' 18)
 (cond (Q5 .neq m.Flags.Type' 0)
 (some 0)
 (none))
 (cond (Q5 .eql m.Type' 20)
 (cond (Q5 .neq m.Flags.Type' 0)
 (some 0)
 (none))
 (cond (Q5 .eql m.Type' 2)
 (cond (Q5 .leq (m.Name.length:Int) 16)
 (some 0)
 (some 2))
 (some 0))))))))
theorem Q3m {N} {m} {r} (h:Gc N m=some r):pU 223 [.agg (Vi.cells m)] (.int .i64 r):=by
 refine Q3 Zcr ?_;unfold Gc at h;rw [cX,cY] at h;apply iU h<;>intro h
 ·refine iR h fun h=>?_;refine iR h fun h=>?_;refine cP h W3 p1 fun v4 h=>?_;exact iB h
 apply iU h<;>intro h
 ·refine iR h fun h=>?_;refine cP h W3 p1 fun v9 h=>?_;exact iB h
 apply iU h<;>intro h
 ·refine cP h Xn p1 fun v13 h=>?_;exact iB h
 refine ifO h (fun hc16 h=>?_) (fun hc16 h=>?_)
 ·refine ifT hc16 ?_;refine iL h fun h=>?_;refine cP h Xn p1 fun v18 h=>?_;exact iB h
 apply iU h<;>intro h
 ·refine iL h fun h=>?_;refine cP h Xn p1 fun v23 h=>?_;exact iB h
 refine ifO h (fun hc26 h=>?_) (fun hc26 h=>?_)
 ·refine ifT hc26 ?_;refine iL h fun h=>?_
  first | (cases h;done) | (simp [U6] at h;done)
 apply iU h<;>intro h
 ·refine iL h fun h=>?_
  first | (cases h;done) | (simp [U6] at h;done)
 refine iR h fun h=>?_;exact iB h
def Q1b (N:Nat) (m:Vi):Option Int:=
 (Q17 N m.Type').bind fun v1=>
 cond (!v1)
 (some 8)
 ((Q3w N m.Type' m.Flags).bind fun v4=>
 cond (!v4)
 (some 7)
 ((Q3u N m.Type').bind fun v7=>
 cond v7
 (cond (Q0k .eql m.Name [])
 (cond (!(((m.Flags.Dup:Bool) == false)&&(((m.Flags.QoS:Int) == 0)&&(((m.Flags.Retain:Bool) == false)&&(((m.Flags.Will:Bool) == false)&&(((m.Flags.Clean:Bool) == false)&&(((m.Flags.Type':Int) == 0)&&true)))))))
 (some 7)
 ((Yh N (⟨2,m,[],false⟩:Qg)).bind fun v12=>
 cond v12.2.bad
 (some 2)
 (cond (!(((v12.2.m.Type':Int) == m.Type')&&(((v12.2.m.Flags.Dup:Bool) == m.Flags.Dup)&&(((v12.2.m.Flags.QoS:Int) == m.Flags.QoS)&&(((v12.2.m.Flags.Retain:Bool) == m.Flags.Retain)&&(((v12.2.m.Flags.Will:Bool) == m.Flags.Will)&&(((v12.2.m.Flags.Clean:Bool) == m.Flags.Clean)&&(((v12.2.m.Flags.Type':Int) == m.Flags.Type')&&(((v12.2.m.Gateway:Int) == 0)&&(((v12.2.m.Radius:Int) == 0)&&(((v12.2.m.Time:Int) == 0)&&(((v12.2.m.Timed:Bool) == false)&&(((v12.2.m.TopicID:Int) == 0)&&(((v12.2.m.MsgID:Int) == 0)&&(((v12.2.m.Code:Int) == 0)&&(((v12.2.m.Name:List UInt8) == [])&&(((v12.2.m.Data:List UInt8) == [])&&true)))))))))))))))))
 (some 2)
 ((Ja N m).bind fun v16=>
 cond (!v16)
 (some 2)
 ((Vt N m).bind fun v19=>
 cond (Q5 .neq v19 0)
 (some v19)
 ((Gc N m).bind fun v22=>
 cond (Q5 .neq v22 0)
 (some v22)
 ((Uy N m).bind fun v25=>
 (Wr N m.Type' (v25.length:Int)).bind fun v27=>
 some v27.2)))))))
 ((Yh N (⟨2,m,[],false⟩:Qg)).bind fun v29=>
 cond v29.2.bad
 (some 2)
 (cond (!(((v29.2.m.Type':Int) == m.Type')&&(((v29.2.m.Flags.Dup:Bool) == m.Flags.Dup)&&(((v29.2.m.Flags.QoS:Int) == m.Flags.QoS)&&(((v29.2.m.Flags.Retain:Bool) == m.Flags.Retain)&&(((v29.2.m.Flags.Will:Bool) == m.Flags.Will)&&(((v29.2.m.Flags.Clean:Bool) == m.Flags.Clean)&&(((v29.2.m.Flags.Type':Int) == m.Flags.Type')&&(((v29.2.m.Gateway:Int) == 0)&&(((v29.2.m.Radius:Int) == 0)&&(((v29.2.m.Time:Int) == 0)&&(((v29.2.m.Timed:Bool) == false)&&(((v29.2.m.TopicID:Int) == 0)&&(((v29.2.m.MsgID:Int) == 0)&&(((v29.2.m.Code:Int) == 0)&&(((v29.2.m.Name:List UInt8) == [])&&(((v29.2.m.Data:List UInt8) == [])&&true)))))))))))))))))
 (some 2)
 ((Ja N m).bind fun v33=>
 cond (!v33)
 (some 2)
 ((Vt N m).bind fun v36=>
 cond (Q5 .neq v36 0)
 (some v36)
 ((Gc N m).bind fun v39=>
 cond (Q5 .neq v39 0)
 (some v39)
 ((Uy N m).bind fun v42=>
 (Wr N m.Type' (v42.length:Int)).bind fun v44=>
 some v44.2)))))))
 ((Yh N (⟨2,m,[],false⟩:Qg)).bind fun v46=>
 cond v46.2.bad
 (some 2)
 (cond (!(((v46.2.m.Type':Int) == m.Type')&&(((v46.2.m.Flags.Dup:Bool) == m.Flags.Dup)&&(((v46.2.m.Flags.QoS:Int) == m.Flags.QoS)&&(((v46.2.m.Flags.Retain:Bool) == m.Flags.Retain)&&(((v46.2.m.Flags.Will:Bool) == m.Flags.Will)&&(((v46.2.m.Flags.Clean:Bool) == m.Flags.Clean)&&(((v46.2.m.Flags.Type':Int) == m.Flags.Type')&&(((v46.2.m.Gateway:Int) == 0)&&(((v46.2.m.Radius:Int) == 0)&&(((v46.2.m.Time:Int) == 0)&&(((v46.2.m.Timed:Bool) == false)&&(((v46.2.m.TopicID:Int) == 0)&&(((v46.2.m.MsgID:Int) == 0)&&(((v46.2.m.Code:Int) == 0)&&(((v46.2.m.Name:List UInt8) == [])&&(((v46.2.m.Data:List UInt8) == [])&&true)))))))))))))))))
 (some 2)
 ((Ja N m).bind fun v50=>
 cond (!v50)
 (some 2)
 ((Vt N m).bind fun v53=>
 cond (Q5 .neq v53 0)
 (some v53)
 ((Gc N m).bind fun v56=>
 cond (Q5 .neq v56 0)
 (some v56)
 ((Uy N m).bind fun v59=>
 (Wr N m.Type' (v59.length:Int)).bind fun v61=>
 some v61.2))))))))
theorem Qb1 {N} {m} {r} (h:Q1b N m=some r):pU 195 [.agg (Vi.cells m)] (.int .i64 r):=by
 refine Q3 Z8o ?_;unfold Q1b at h;rw [cX,cY] at h;refine cP h Q9j p1 fun v1 h=>?_;refine iL h fun h=>?_;refine cP h Qda (.cons (.p _) (.cons (Ar (.cons (.p _) p5)) .nil)) fun v4 h=>?_;refine iL h fun h=>?_;refine cP h Qdb p1 fun v7 h=>?_;apply iU h<;>intro h
 ·apply iU h<;>intro h
  ·refine iL h fun h=>?_;refine cG h V9 fun v12 h=>?_;refine ⟨rho [1,3],(.cells (Qfh m ([])) :: .cells (Q5s v12.2 2) :: .cells (Wt (cI .u8) v12.2.out) :: []),.tuple [],⟨(rE rfl <| rN),(hC rfl (rE rfl <| rE rfl <| rE rfl <| rE rfl <| rE rfl <| rE rfl <| rE rfl <| rE rfl <| rE rfl <| rE rfl <| rE rfl <| rE rfl <| rE rfl <| rE rfl <| rE rfl <| rE rfl <| rE rfl <| rE rfl <| rS <| rE rfl <| rN) <| hV lb <| hN),rfl,rfl,(roE rfl <| roE (Q0y _ _ _) <| roN),rfl,(fK rfl rfl <| fR 0 rfl rfl rfl rfl <| fO 2 rfl rfl rfl <| fN),rfl⟩,?_⟩;refine iL h fun h=>?_;refine iL h fun h=>?_;refine cP h Q2f (.cons (Ar (f8_ (f2_ (.cons (.p _) p5)))) .nil) fun v16 h=>?_;refine iL h fun h=>?_;refine cP h Q1d (.cons (Ar (f8_ (f2_ (.cons (.p _) p5)))) .nil) fun v19 h=>?_;refine iL h fun h=>?_;refine cP h Q3m (.cons (Ar (f8_ (f2_ (.cons (.p _) p5)))) .nil) fun v22 h=>?_;refine iL h fun h=>?_;refine Qi ?_;refine cD h Q0s (.cons (Ar (f8_ (f2_ (.cons (.p _) p5)))) .nil) fun v25 h=>?_;refine cD h Gk p2 fun v27 h=>?_;cases h;exact (.p _)
  refine cG h V9 fun v29 h=>?_;refine ⟨rho [1,3],(.cells (Qfh m ([])) :: .cells (Q5s v29.2 2) :: .cells (Wt (cI .u8) v29.2.out) :: []),.tuple [],⟨(rE rfl <| rN),(hC rfl (rE rfl <| rE rfl <| rE rfl <| rE rfl <| rE rfl <| rE rfl <| rE rfl <| rE rfl <| rE rfl <| rE rfl <| rE rfl <| rE rfl <| rE rfl <| rE rfl <| rE rfl <| rE rfl <| rE rfl <| rE rfl <| rS <| rE rfl <| rN) <| hV lb <| hN),rfl,rfl,(roE rfl <| roE (Q0y _ _ _) <| roN),rfl,(fK rfl rfl <| fR 0 rfl rfl rfl rfl <| fO 2 rfl rfl rfl <| fN),rfl⟩,?_⟩;refine iL h fun h=>?_;refine iL h fun h=>?_;refine cP h Q2f (.cons (Ar (f8_ (f2_ (.cons (.p _) p5)))) .nil) fun v33 h=>?_;refine iL h fun h=>?_;refine cP h Q1d (.cons (Ar (f8_ (f2_ (.cons (.p _) p5)))) .nil) fun v36 h=>?_;refine iL h fun h=>?_;refine cP h Q3m (.cons (Ar (f8_ (f2_ (.cons (.p _) p5)))) .nil) fun v39 h=>?_;refine iL h fun h=>?_;refine Qi ?_;refine cD h Q0s (.cons (Ar (f8_ (f2_ (.cons (.p _) p5)))) .nil) fun v42 h=>?_;refine cD h Gk p2 fun v44 h=>?_;cases h;exact (.p _)
 refine cG h V9 fun v46 h=>?_;refine ⟨rho [1,3],(.cells (Qfh m ([])) :: .cells (Q5s v46.2 2) :: .cells (Wt (cI .u8) v46.2.out) :: []),.tuple [],⟨(rE rfl <| rN),(hC rfl (rE rfl <| rE rfl <| rE rfl <| rE rfl <| rE rfl <| rE rfl <| rE rfl <| rE rfl <| rE rfl <| rE rfl <| rE rfl <| rE rfl <| rE rfl <| rE rfl <| rE rfl <| rE rfl <| rE rfl <| rE rfl <| rS <| rE rfl <| rN) <| hV lb <| hN),rfl,rfl,(roE rfl <| roE (Q0y _ _ _) <| roN),rfl,(fK rfl rfl <| fR 0 rfl rfl rfl rfl <| fO 2 rfl rfl rfl <| fN),rfl⟩,?_⟩;refine iL h fun h=>?_;refine iL h fun h=>?_;refine cP h Q2f (.cons (Ar (f8_ (f2_ (.cons (.p _) p5)))) .nil) fun v50 h=>?_;refine iL h fun h=>?_;refine cP h Q1d (.cons (Ar (f8_ (f2_ (.cons (.p _) p5)))) .nil) fun v53 h=>?_;refine iL h fun h=>?_;refine cP h Q3m (.cons (Ar (f8_ (f2_ (.cons (.p _) p5)))) .nil) fun v56 h=>?_;refine iL h fun h=>?_;refine Qi ?_;refine cD h Q0s (.cons (Ar (f8_ (f2_ (.cons (.p _) p5)))) .nil) fun v59 h=>?_;refine cD h Gk p2 fun v61 h=>?_;cases h;exact (.p _)
end
end
end Go.Av
