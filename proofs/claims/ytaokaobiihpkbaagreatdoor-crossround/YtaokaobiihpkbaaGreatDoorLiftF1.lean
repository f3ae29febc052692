/- Part of the proof of CrossRound: for every input the law returns true; no condition. -/
import Derived.Test.YtaokaobiihpkbaaGreatDoorLiftF0
set_option linter.all false
open Go.IntKind (wrap)
namespace Go.Av
noncomputable section
open Go.Proofs
set_option maxRecDepth 100000
set_option maxHeartbeats 4000000
attribute [local irreducible] Xd Qu Q6p Q5q Qoa Qoi Qgy
section
def Q2j (N:Nat) (a:Ql) (b:Ql):Option Bool:=
 (Q35 N a).bind fun v1=>
 (Q35 N b).bind fun v3=>
 cond (((v1.kind:Int) == v3.kind)&&(((v1.qos:Int) == v3.qos)&&(((v1.id:Int) == v3.id)&&(((v1.alive:Int) == v3.alive)&&(((v1.code:Int) == v3.code)&&(((v1.dup:Bool) == v3.dup)&&(((v1.retain:Bool) == v3.retain)&&(((v1.clean:Bool) == v3.clean)&&(((v1.user:Bool) == v3.user)&&(((v1.pass:Bool) == v3.pass)&&(((v1.will:Bool) == v3.will)&&(((v1.again:Bool) == v3.again)&&(((v1.topic:List UInt8) == v3.topic)&&(((v1.payload:List UInt8) == v3.payload)&&(((v1.client:List UInt8) == v3.client)&&(((v1.name:List UInt8) == v3.name)&&(((v1.word:List UInt8) == v3.word)&&true)))))))))))))))))
 ((Jf N a.Will b.Will).bind fun v6=>
 cond v6
 ((Jj N a.Codes b.Codes).bind fun v9=>
 cond v9
 ((Wf N a.Filters b.Filters).bind fun v12=>
 cond v12
 ((W4 N a.Props b.Props).bind fun v15=>
 some v15)
 (some false))
 (some false))
 (some false))
 (some false)
theorem Qdi {N} {a} {b} {r} (h:Q2j N a b=some r):pU 99 [.agg (Ql.cells a),.agg (Ql.cells b)] (.bool r):=by
 refine Q3 k99 ?_;unfold Q2j at h;refine Qk ?_;obtain ⟨v1,hv2,h⟩:=Q01 h;refine Q13 (Q5e hv2) (.cons (Frz.agg' (Za (f8_ (.cons (.p _) .nil)))) .nil) ?_;obtain ⟨v3,hv4,h⟩:=Q01 h;refine Q13 (Q5e hv4) (.cons (Frz.agg' (Za (f8_ (.cons (.p _) .nil)))) .nil) ?_;refine Qlh (ks := [0,0,0,0,0,2,2,2,2,2,2,2,1,1,1,1,1]) (xs := [.p (.int .i64 v1.kind),.p (.int .i64 v1.qos),.p (.int .i64 v1.id),.p (.int .i64 v1.alive),.p (.int .i64 v1.code),.p (.bool v1.dup),.p (.bool v1.retain),.p (.bool v1.clean),.p (.bool v1.user),.p (.bool v1.pass),.p (.bool v1.will),.p (.bool v1.again),.p (.str v1.topic),.p (.str v1.payload),.p (.str v1.client),.p (.str v1.name),.p (.str v1.word)]) (ys := [.p (.int .i64 v3.kind),.p (.int .i64 v3.qos),.p (.int .i64 v3.id),.p (.int .i64 v3.alive),.p (.int .i64 v3.code),.p (.bool v3.dup),.p (.bool v3.retain),.p (.bool v3.clean),.p (.bool v3.user),.p (.bool v3.pass),.p (.bool v3.will),.p (.bool v3.again),.p (.str v3.topic),.p (.str v3.payload),.p (.str v3.client),.p (.str v3.name),.p (.str v3.word)]) (b:=(((v1.kind:Int) == v3.kind)&&(((v1.qos:Int) == v3.qos)&&(((v1.id:Int) == v3.id)&&(((v1.alive:Int) == v3.alive)&&(((v1.code:Int) == v3.code)&&(((v1.dup:Bool) == v3.dup)&&(((v1.retain:Bool) == v3.retain)&&(((v1.clean:Bool) == v3.clean)&&(((v1.user:Bool) == v3.user)&&(((v1.pass:Bool) == v3.pass)&&(((v1.will:Bool) == v3.will)&&(((v1.again:Bool) == v3.again)&&(((v1.topic:List UInt8) == v3.topic)&&(((v1.payload:List UInt8) == v3.payload)&&(((v1.client:List UInt8) == v3.client)&&(((v1.name:List UInt8) == v3.name)&&(((v1.word:List UInt8) == v3.word)&&true)))))))))))))))))) rfl ?_;refine ifO h (fun hc5 h=>?_) (fun hc5 h=>?_)
 ·obtain ⟨v6,hv7,h⟩:=Q01 h;refine Q13 (Q8u hv7) (.cons (Frz.agg' (f4_ (.cons (.p _) .nil))) (.cons (Frz.agg' (f4_ (.cons (.p _) .nil))) .nil)) ?_;refine ifO h (fun hc8 h=>?_) (fun hc8 h=>?_)
  ·obtain ⟨v9,hv10,h⟩:=Q01 h;refine Q13 (Q7x hv10) (.cons (.p _) (.cons (.p _) .nil)) ?_;refine ifO h (fun hc11 h=>?_) (fun hc11 h=>?_)
   ·obtain ⟨v12,hv13,h⟩:=Q01 h;refine Q13 (Q38 hv13) (.cons (.p _) (.cons (.p _) .nil)) ?_;refine ifO h (fun hc14 h=>?_) (fun hc14 h=>?_)
    ·obtain ⟨v15,hv16,h⟩:=Q01 h;refine Q13 (Q02 hv16) (.cons (.p _) (.cons (.p _) .nil)) ?_;have hr:=Qv h;subst hr;exact (.p _)
    have hr:=Qv h;subst hr;exact (.p _)
   have hr:=Qv h;subst hr;exact (.p _)
  have hr:=Qv h;subst hr;exact (.p _)
 have hr:=Qv h;subst hr;exact (.p _)
def Q32 (_N:Nat) (kind:Int) (id:Int):Option Bool:=
 cond (Q5 .eql id 38)
 (some true)
 (cond (Q5 .eql id 11)
 (some (Q5 .eql kind 3))
 (some false))
theorem Q5b {N} {kind} {id} {r} (h:Q32 N kind id=some r):pU 167 [.int .i64 kind,.int .i64 id] (.bool r):=by
 refine Q3 Z7b ?_;unfold Q32 at h;rw [cX] at h;refine iL h fun h=>?_;exact iB h
def Yd (N:Nat) (n_0:Int) (size:Int):Nat→Int→(List Int)→Option (List UInt8)
 | 0,_,_=>none
 | n+1,s14,l15=>
  cond (Q5 .lss s14 (ifB (decide (16<size)) 16 size))
  (cond (Q5 .lss s14 8)
  (cond (decide (0≤(wrap .u64 (wrap .i64 (8 * s14))))) ((idx (l15:List Int) (wrap .i64 ((wrap .i64 ((ifB (decide (16<size)) 16 size) - 1)) - s14))).bind fun y19=>
  Yd N n_0 size n (wrap .i64 (s14+1)) ((l15:List Int).set (Int.toNat (wrap .i64 ((wrap .i64 ((ifB (decide (16<size)) 16 size) - 1)) - s14))) (wrap .u8 (Qkt .u64 n_0 (wrap .u64 (wrap .i64 (8 * s14))))))) none)
  (Yd N n_0 size n (wrap .i64 (s14+1)) l15))
  (some (l15.map fun n=>UInt8.ofNat n.toNat))
def Zy (N:Nat) (n_0:Int) (size:Int):Option (List UInt8):=
 cond (Q5 .leq size 0)
 (some [])
 (cond (decide (0≤(ifB (decide (16<size)) 16 size))&&decide ((ifB (decide (16<size)) 16 size)≤(ifB (decide (16<size)) 16 size))&&decide ((ifB (decide (16<size)) 16 size) * 1≤1099511627776)) (Yd N n_0 size N 0 (List.replicate ((ifB (decide (16<size)) 16 size):Int).toNat (0:Int))) none)
theorem Y0 {N} {n_0} {size} {r} (h:Zy N n_0 size=some r):pU 168 [.int .u64 n_0,.int .i64 size] (.str r):=by
 refine Q3 Zch ?_;unfold Zy at h;rw [cX] at h;refine iL h fun h=>?_;refine kU h fun h=>?_;refine Qzr (c:=(cI .u8)) (0:Int) rfl ?_;refine lpC (τ:=Int×(List Int)) (fun ⟨s14,l15⟩=>(iW n_0 :: .p (.int .i64 (ifB (decide (16<size)) 16 size))::a2 (.any :: .slice 1 1 0 l15.length::a4 (a2 (.any :: .p (.int .i64 (ifB (decide (16<size)) 16 size))::iI s14::a16 (a2 (.any :: []))))):List AV)) (fun ⟨_,l15⟩=>(.dead :: .cells (W8 (cI .u8) l15) :: []:List AObj)) (fun n0 ⟨s14,l15⟩=>Yd N n_0 size n0 s14 l15) (0,(List.replicate ((ifB (decide (16<size)) 16 size):Int).toNat (0:Int))) h (rho [0,0]) Yr fun n0 ⟨s14,l15⟩ h=>?_
 first | rw [Yd] at h | simp only [Yd] at h
 rw [cX] at h;apply iU h<;>intro h
 ·apply iU h<;>intro h
  ·refine kU h fun h=>?_;obtain ⟨y19,hy20,h⟩:=Q01 h;refine Q2t (Qu8 hy20 sd) ?_;refine Q2t (Qbz (c:=(cI .u8)) (e:=1) (fun _=>rfl) hy20 (off:=0) (by omega) rfl (by decide)) ?_
   refine Qd6 (c:=(cI .u8)) (e:=1) (fun _=>rfl) hy20 (wrap .u8 (Qkt .u64 n_0 (wrap .u64 (wrap .i64 (8 * s14))))) (off:=0) (by first | omega | (simp only [Qak,orI,Qtb,Q63,Qc0,Qkt];omega)) rfl (by simp) ?_
   show Exists _;exact ⟨(n0,(wrap .i64 (s14+1)),((l15:List Int).set (Int.toNat (wrap .i64 ((wrap .i64 ((ifB (decide (16<size)) 16 size) - 1)) - s14))) (wrap .u8 (Qkt .u64 n_0 (wrap .u64 (wrap .i64 (8 * s14))))))),h,Lg _,(fun i=>i),Yr⟩
  show Exists _;exact ⟨(n0,(wrap .i64 (s14+1)),l15),h,Lg _,(fun i=>i),Yr⟩
 refine Qie (l:=l15) (n:=l15.length) sd ?_;cases h;exact (.p _)
def Q1o (N:Nat) (s_0:List UInt8):Option (List UInt8):=
 (Zy N (wrap .u64 (s_0.length:Int)) 2).bind fun v1=>
 cond (Nat.ble (v1.length+s_0.length) 4611686018427387904) (some (v1++s_0)) none
theorem Q78 {N} {s_0} {r} (h:Q1o N s_0=some r):pU 198 [.str s_0] (.str r):=by
 refine Q3 Zco ?_;unfold Q1o at h;refine cP h Y0 p2 fun v1 h=>?_;refine kU h fun h=>?_;cases h;exact (.p _)
def Ge (N:Nat) (s_0:List UInt8):Option ((List UInt8)×Int):=
 cond (Q5 .gtr (s_0.length:Int) 65535)
 (some ([],2))
 ((Q1o N s_0).bind fun v2=>
 some (v2,0))
theorem Q2d {N} {s_0} {r} (h:Ge N s_0=some r):pU 169 [.str s_0] (.tuple [.str r.1,.int .i64 r.2]):=by
 refine Q3 Z9i ?_;unfold Ge at h;rw [cX] at h;refine iL2 h fun h=>?_;refine cP h Q78 p1 fun v2 h=>?_;obtain rfl:=Qv h;exact u2
def Q61 (_N:Nat) (n_0:Int):Option Bool:=
 cond (Q5 .geq n_0 0)
 (some (Q5 .leq n_0 268435455))
 (some false)
theorem Qcm {N} {n_0} {r} (h:Q61 N n_0=some r):pU 170 [.int .i64 n_0] (.bool r):=by
 refine Q3 Z4m ?_;unfold Q61 at h;rw [cX] at h;exact iB h
def Um (N:Nat):Nat→Int→(List Int)→Option ((List UInt8)×Int)
 | 0,_,_=>none
 | n+1,n9,l10=>
  cond (Q5 .geq n9 128)
  (cond (Nat.ble ((l10.length+1+4096) * 1) 17592186044416) (Um N n (wrap .i64 ((n9:Int).tdiv 128)) (l10 ++ [(orI .u8 (wrap .u8 ((n9:Int).tmod 128)) 128)])) none)
  (cond (Nat.ble ((l10.length+1+4096) * 1) 17592186044416) (some (((l10 ++ [(wrap .u8 n9)]).map fun n=>UInt8.ofNat n.toNat),0)) none)
def Ga (N:Nat) (n_0:Int):Option ((List UInt8)×Int):=
 (Q61 N n_0).bind fun v1=>
 cond (!v1)
 (some ([],2))
 (Um N N n_0 [])
theorem Q0x {N} {n_0} {r} (h:Ga N n_0=some r):pU 131 [.int .i64 n_0] (.tuple [.str r.1,.int .i64 r.2]):=by
 refine Q3 Z9b ?_;unfold Ga at h;refine cP h Qcm p1 fun v1 h=>?_;refine iL2 h fun h=>?_;refine lpA (τ:=Int×(List Int)) (fun ⟨n9,l10⟩=>(iI n9::a2 (.any :: .slice 1 0 0 l10.length::a16 (a4 ([]))):List AV)) (fun ⟨_,l10⟩=>(.cells (W8 (cI .u8) l10) :: []:List AObj)) (fun n0 ⟨n9,l10⟩=>Um N n0 n9 l10) (n_0,[]) h fun n0 ⟨n9,l10⟩ h=>?_
 first | rw [Um] at h | simp only [Um] at h
 rw [cX] at h;apply iU h<;>intro h
 ·obtain ⟨hk12,h⟩:=Q54 h;refine Q2t (Xj (c:=(cI .u8)) (e:=1) (fun _=>rfl) sd hk12) ?_;refine Un (c:=(cI .u8)) [(orI .u8 (wrap .u8 ((n9:Int).tmod 128)) 128)] rfl ?_;show Exists _;exact ⟨(n0,(wrap .i64 ((n9:Int).tdiv 128)),(l10 ++ [(orI .u8 (wrap .u8 ((n9:Int).tmod 128)) 128)])),h,Lg _,(rho [2]),Yr⟩
 obtain ⟨hk13,h⟩:=Q54 h;refine Q2t (Xj (c:=(cI .u8)) (e:=1) (fun _=>rfl) sd hk13) ?_;refine Un (c:=(cI .u8)) [(wrap .u8 n9)] rfl ?_;refine Qie (l:=(l10 ++ [(wrap .u8 n9)])) (n:=(l10.length+1)) sd ?_;obtain rfl:=Qv h;exact u2
def Gs (N:Nat) (shape:Int) (p:Zq):Option (List UInt8):=
 cond (Q5 .eql shape 1)
 ((Zy N (wrap .u64 p.N') shape).bind fun v2=>
 some v2)
 (cond (Q5 .eql shape 2)
 ((Zy N (wrap .u64 p.N') shape).bind fun v5=>
 some v5)
 (cond (Q5 .eql shape 3)
 ((Zy N (wrap .u64 p.N') 4).bind fun v8=>
 some v8)
 (cond (Q5 .eql shape 4)
 ((Ga N (wrap .i64 p.N')).bind fun v11=>
 some v11.1)
 ((Ge N p.Text).bind fun v13=>
 cond (Q5 .neq shape 7)
 (some v13.1)
 ((Ge N p.Value).bind fun v16=>
 cond (Nat.ble (v13.1.length+v16.1.length) 4611686018427387904) (some (v13.1++v16.1)) none)))))
theorem Q09 {N} {shape} {p} {r} (h:Gs N shape p=some r):pU 129 [.int .i64 shape,.agg (Zq.cells p)] (.str r):=by
 refine Q3 Zar ?_;unfold Gs at h;rw [cX] at h;refine ifO h (fun hc1 h=>?_) (fun hc1 h=>?_)
 ·refine ifT hc1 ?_;refine cP h Y0 p2 fun v2 h=>?_;cases h;exact (.p _)
 apply iU h<;>intro h
 ·refine cP h Y0 p2 fun v5 h=>?_;cases h;exact (.p _)
 apply iU h<;>intro h
 ·refine cP h Y0 p2 fun v8 h=>?_;cases h;exact (.p _)
 apply iU h<;>intro h
 ·refine cP h Q0x p1 fun v11 h=>?_;cases h;exact (.p _)
 refine cP h Q2d p1 fun v13 h=>?_;refine iL h fun h=>?_;refine cP h Q2d p1 fun v16 h=>?_;refine kU h fun h=>?_;cases h;exact (.p _)
def Q1u:List (Int×Qt) := [(1,(⟨1,65544,0,1⟩:Qt)),(2,(⟨3,65544,0,4294967295⟩:Qt)),(3,(⟨5,65544,0,0⟩:Qt)),(8,(⟨5,65544,0,0⟩:Qt)),(9,(⟨6,65544,0,0⟩:Qt)),(11,(⟨4,264,1,268435455⟩:Qt)),(17,(⟨3,16390,0,4294967295⟩:Qt)),(18,(⟨5,4,0,0⟩:Qt)),(19,(⟨2,4,0,65535⟩:Qt)),(21,(⟨5,32774,0,0⟩:Qt)),(22,(⟨6,32774,0,0⟩:Qt)),(23,(⟨1,2,0,1⟩:Qt)),(24,(⟨3,65536,0,4294967295⟩:Qt)),(25,(⟨1,2,0,1⟩:Qt)),(26,(⟨5,4,0,0⟩:Qt)),(28,(⟨5,16388,0,0⟩:Qt)),(31,(⟨5,51956,0,0⟩:Qt)),(33,(⟨2,6,1,65535⟩:Qt)),(34,(⟨2,6,0,65535⟩:Qt)),(35,(⟨2,8,1,65535⟩:Qt)),(36,(⟨1,4,0,1⟩:Qt)),(37,(⟨1,4,0,1⟩:Qt)),(38,(⟨7,118782,0,0⟩:Qt)),(39,(⟨3,6,1,4294967295⟩:Qt)),(40,(⟨1,4,0,1⟩:Qt)),(41,(⟨1,4,0,1⟩:Qt)),(42,(⟨1,4,0,1⟩:Qt))]
theorem Qci:pU 126 [] (.pmap (Qyi (fun v => .agg (Qt.cells v)) Q1u)):=Q1l Qe8 (N:=2000) (d:=60) (by kernel_rfl)
def Q2i (_N:Nat) (r_0:Qt) (kind:Int):Option Bool:=
 cond (Q5 .geq kind 1)
 (cond (Q5 .leq kind 16)
 (cond (decide (0≤(wrap .u64 kind))) (some (Q5 .eql (Qak .i64 (Qkt .i64 r_0.kinds (wrap .u64 kind)) 1) 1)) none)
 (some false))
 (some false)
theorem Q8b {N} {r_0} {kind} {r} (h:Q2i N r_0 kind=some r):pU 165 [.agg (Qt.cells r_0),.int .i64 kind] (.bool r):=by
 refine Q3 Z2k ?_;unfold Q2i at h;rw [cX] at h;refine iR h fun h=>?_;refine iR h fun h=>?_;refine kU h fun h=>?_;cases h;exact (.p _)
def Q08 (_N:Nat) (r_0:Qt) (p:Zq):Option Int:=
 cond (Q0m .neq p.Text [])
 (some 2)
 (cond (Q0m .neq p.Value [])
 (some 2)
 (cond (Q5 .lss p.N' r_0.least)
 (some 9)
 (cond (Q5 .gtr p.N' r_0.most)
 (some 9)
 (some 0))))
theorem Q5s {N} {r_0} {p} {r} (h:Q08 N r_0 p=some r):pU 166 [.agg (Qt.cells r_0),.agg (Zq.cells p)] (.int .i64 r):=by
 refine Q3 Zam ?_;unfold Q08 at h;rw [cX,cY] at h;refine iL h fun h=>?_;refine iL h fun h=>?_;refine iL h fun h=>?_;exact iB h
def Q34 (N:Nat) (r_0:Qt) (kind:Int) (p:Zq):Option Int:=
 (Q2i N r_0 kind).bind fun v1=>
 cond (!v1)
 (some 9)
 (cond (Q5 .leq r_0.shape 4)
 ((Q08 N r_0 p).bind fun v5=>
 some v5)
 (cond (Q5 .neq p.N' 0)
 (some 2)
 (cond (Q0m .neq p.Value [])
 (cond (Q5 .neq r_0.shape 7)
 (some 2)
 (cond (Q5 .eql r_0.shape 6)
 (cond (Q5 .gtr (p.Text.length:Int) 65535)
 (some 2)
 (some 0))
 ((Xh N p.Text).bind fun v12=>
 cond (!v12)
 (some 6)
 ((Xh N p.Value).bind fun v15=>
 cond (!v15)
 (some 6)
 (cond (Q5 .eql p.ID 8)
 ((Yq N p.Text).bind fun v19=>
 cond (!v19)
 (some 9)
 (some 0))
 (some 0))))))
 (cond (Q5 .eql r_0.shape 6)
 (cond (Q5 .gtr (p.Text.length:Int) 65535)
 (some 2)
 (some 0))
 ((Xh N p.Text).bind fun v24=>
 cond (!v24)
 (some 6)
 ((Xh N p.Value).bind fun v27=>
 cond (!v27)
 (some 6)
 (cond (Q5 .eql p.ID 8)
 ((Yq N p.Text).bind fun v31=>
 cond (!v31)
 (some 9)
 (some 0))
 (some 0))))))))
theorem Q5i {N} {r_0} {kind} {p} {r} (h:Q34 N r_0 kind p=some r):pU 127 [.agg (Qt.cells r_0),.int .i64 kind,.agg (Zq.cells p)] (.int .i64 r):=by
 refine Q3 Z9g ?_;unfold Q34 at h;rw [cX,cY] at h;refine cP h Q8b (.cons q4 p1) fun v1 h=>?_;refine iL h fun h=>?_;apply iU h<;>intro h
 ·refine cP h Q5s (.cons q4 (.cons q4 .nil)) fun v5 h=>?_;cases h;exact (.p _)
 refine iL h fun h=>?_;apply iU h<;>intro h
 ·refine iL h fun h=>?_;apply iU h<;>intro h
  ·exact iB h
  refine cP h Xu p1 fun v12 h=>?_;refine iL h fun h=>?_;refine cP h Xu p1 fun v15 h=>?_;refine iL h fun h=>?_;refine iR h fun h=>?_;refine cP h Xi p1 fun v19 h=>?_;exact iB h
 apply iU h<;>intro h
 ·exact iB h
 refine cP h Xu p1 fun v24 h=>?_;refine iL h fun h=>?_;refine cP h Xu p1 fun v27 h=>?_;refine iL h fun h=>?_;refine iR h fun h=>?_;refine cP h Xi p1 fun v31 h=>?_;exact iB h
def Yl (N:Nat) (kind:Int) (l:List Zq):Nat→Int→(List Int)→(List Int)→Option ((List UInt8)×Int)
 | 0,_,_,_=>none
 | n+1,s107,l108,l109=>
  cond (Q5 .lss s107 ((Q9 Zq.cells l).length:Int))
  ((idx l s107).bind fun y111=>
  optC (Qam Q1u y111.ID) (fun m113=>
  (Q34 N m113 kind y111).bind fun v115=>
  cond (Q5 .neq v115 0)
  (some ([],v115))
  (cond (decide (0≤y111.ID)&&decide (y111.ID<((64:Nat):Int))) ((idx (l108:List Int) y111.ID).bind fun y118=>
  (idx (l108:List Int) y111.ID).bind fun y121=>
  (idx (((l108:List Int).set (Int.toNat y111.ID) (wrap .i64 (y118+1))):List Int) y111.ID).bind fun y123=>
  cond (Q5 .gtr y123 1)
  ((Q32 N kind y111.ID).bind fun v126=>
  cond (!v126)
  (some ([],9))
  (cond (Nat.ble ((l109.length+1+4096) * 1) 17592186044416) ((Gs N m113.shape y111).bind fun v130=>
  cond (Nat.beq v130.length 0)
  (Yl N kind l n (wrap .i64 (s107+1)) ((l108:List Int).set (Int.toNat y111.ID) (wrap .i64 (y118+1))) (l109 ++ [(wrap .u8 y111.ID)]))
  (cond (Nat.ble (((l109.length+1)+v130.length+4096) * 1) 17592186044416) (Yl N kind l n (wrap .i64 (s107+1)) ((l108:List Int).set (Int.toNat y111.ID) (wrap .i64 (y118+1))) ((l109 ++ [(wrap .u8 y111.ID)])++(v130.map fun b=>(b.toNat:Int)))) none)) none))
  (cond (Nat.ble ((l109.length+1+4096) * 1) 17592186044416) ((Gs N m113.shape y111).bind fun v135=>
  cond (Nat.beq v135.length 0)
  (Yl N kind l n (wrap .i64 (s107+1)) ((l108:List Int).set (Int.toNat y111.ID) (wrap .i64 (y118+1))) (l109 ++ [(wrap .u8 y111.ID)]))
  (cond (Nat.ble (((l109.length+1)+v135.length+4096) * 1) 17592186044416) (Yl N kind l n (wrap .i64 (s107+1)) ((l108:List Int).set (Int.toNat y111.ID) (wrap .i64 (y118+1))) ((l109 ++ [(wrap .u8 y111.ID)])++(v135.map fun b=>(b.toNat:Int)))) none)) none)) none))
  ((Q34 N (⟨0,0,0,0⟩:Qt) kind y111).bind fun v139=>
  cond (Q5 .neq v139 0)
  (some ([],v139))
  (cond (decide (0≤y111.ID)&&decide (y111.ID<((64:Nat):Int))) ((idx (l108:List Int) y111.ID).bind fun y142=>
  (idx (l108:List Int) y111.ID).bind fun y145=>
  (idx (((l108:List Int).set (Int.toNat y111.ID) (wrap .i64 (y142+1))):List Int) y111.ID).bind fun y147=>
  cond (Q5 .gtr y147 1)
  ((Q32 N kind y111.ID).bind fun v150=>
  cond (!v150)
  (some ([],9))
  (cond (Nat.ble ((l109.length+1+4096) * 1) 17592186044416) ((Gs N 0 y111).bind fun v154=>
  cond (Nat.beq v154.length 0)
  (Yl N kind l n (wrap .i64 (s107+1)) ((l108:List Int).set (Int.toNat y111.ID) (wrap .i64 (y142+1))) (l109 ++ [(wrap .u8 y111.ID)]))
  (cond (Nat.ble (((l109.length+1)+v154.length+4096) * 1) 17592186044416) (Yl N kind l n (wrap .i64 (s107+1)) ((l108:List Int).set (Int.toNat y111.ID) (wrap .i64 (y142+1))) ((l109 ++ [(wrap .u8 y111.ID)])++(v154.map fun b=>(b.toNat:Int)))) none)) none))
  (cond (Nat.ble ((l109.length+1+4096) * 1) 17592186044416) ((Gs N 0 y111).bind fun v159=>
  cond (Nat.beq v159.length 0)
  (Yl N kind l n (wrap .i64 (s107+1)) ((l108:List Int).set (Int.toNat y111.ID) (wrap .i64 (y142+1))) (l109 ++ [(wrap .u8 y111.ID)]))
  (cond (Nat.ble (((l109.length+1)+v159.length+4096) * 1) 17592186044416) (Yl N kind l n (wrap .i64 (s107+1)) ((l108:List Int).set (Int.toNat y111.ID) (wrap .i64 (y142+1))) ((l109 ++ [(wrap .u8 y111.ID)])++(v159.map fun b=>(b.toNat:Int)))) none)) none)) none)))
  ((idx (l108:List Int) 22).bind fun y163=>
  cond (Q5 .gtr y163 0)
  ((idx (l108:List Int) 21).bind fun y166=>
  cond (Q5 .eql y166 0)
  (some ([],9))
  ((Ga N (l109.length:Int)).bind fun v169=>
  cond (Q5 .neq v169.2 0)
  (some ([],4))
  (cond (Nat.ble (v169.1.length+(l109.map fun n=>UInt8.ofNat n.toNat).length) 4611686018427387904) (some ((v169.1++(l109.map fun n=>UInt8.ofNat n.toNat)),0)) none)))
  ((Ga N (l109.length:Int)).bind fun v173=>
  cond (Q5 .neq v173.2 0)
  (some ([],4))
  (cond (Nat.ble (v173.1.length+(l109.map fun n=>UInt8.ofNat n.toNat).length) 4611686018427387904) (some ((v173.1++(l109.map fun n=>UInt8.ofNat n.toNat)),0)) none)))
def Q5w (N:Nat) (kind:Int) (l:List Zq):Option ((List UInt8)×Int):=
 cond (Q5 .gtr ((Q9 Zq.cells l).length:Int) 1000)
 (some ([],4))
 (Yl N kind l N 0 [0,0,0,0,0,0,0,0,0,0,0,0,0,0,0,0,0,0,0,0,0,0,0,0,0,0,0,0,0,0,0,0,0,0,0,0,0,0,0,0,0,0,0,0,0,0,0,0,0,0,0,0,0,0,0,0,0,0,0,0,0,0,0,0] [])
theorem Qcr {N} {kind} {l} {r} (h:Q5w N kind l=some r):pU 101 [.int .i64 kind,.slice 4 (Q9 Zq.cells l)] (.tuple [.str r.1,.int .i64 r.2]):=by
 refine Q3 Z3j ?_;unfold Q5w at h;rw [cX] at h;refine iL2 h fun h=>?_;refine Xz Qci .nil ?_;refine lpA (τ:=Int×(List Int)×(List Int)) (fun ⟨s107,_,l109⟩=>(iI kind::a4 (.any :: .p (.pmap (Qyi (fun v => .agg (Qt.cells v)) Q1u)) :: .ptr 0 0 :: .slice 1 1 0 l109.length::a8 (a2 (.p (.slice 4 (Q9 Zq.cells l))::iI ((Q9 Zq.cells l).length:Int)::iI s107::a16 (a16 (a8 (a2 (.any :: []))))))):List AV)) (fun ⟨_,l108,l109⟩=>(.cells (W8 (cI .i64) l108) :: .cells (W8 (cI .u8) l109) :: []:List AObj)) (fun n0 ⟨s107,l108,l109⟩=>Yl N kind l n0 s107 l108 l109) (0,[0,0,0,0,0,0,0,0,0,0,0,0,0,0,0,0,0,0,0,0,0,0,0,0,0,0,0,0,0,0,0,0,0,0,0,0,0,0,0,0,0,0,0,0,0,0,0,0,0,0,0,0,0,0,0,0,0,0,0,0,0,0,0,0],[]) h fun n0 ⟨s107,l108,l109⟩ h=>?_
 first | rw [Yl] at h | simp only [Yl] at h
 rw [cX] at h;apply iU h<;>intro h
 ·refine xR h fun y111 h=>?_;refine Qt3 h (fun m113 hm114 h=>?_) (fun hm114 h=>?_)
  ·refine cP h Q5i (.cons q4 (.cons (.p _) (.cons q4 .nil))) fun v115 h=>?_;refine iL2 h fun h=>?_;refine Qf Qzi ?_;refine Qk ?_;obtain ⟨hk120,h⟩:=Q54 h;refine Q2t hk120 ?_;obtain ⟨y118,hy119,h⟩:=Q01 h
   refine Q73 (c:=(cI .i64)) (e:=1) (fun _=>rfl) hy119 (off:=0) (by decide) (by first | omega | (simp only [Qak,orI,Qtb,Q63,Qc0,Qkt];omega)) ?_
   refine Q2t hk120 ?_;obtain ⟨y121,hy122,h⟩:=Q01 h;refine Q2t (Qbz (c:=(cI .i64)) (e:=1) (fun _=>rfl) hy122 (off:=0) (by omega) rfl (by decide)) ?_
   refine Qd6 (c:=(cI .i64)) (e:=1) (fun _=>rfl) hy122 (wrap .i64 (y118+1)) (off:=0) (by first | omega | (simp only [Qak,orI,Qtb,Q63,Qc0,Qkt];omega)) rfl (by simp) ?_
   refine Q2t hk120 ?_;obtain ⟨y123,hy124,h⟩:=Q01 h
   refine Q73 (c:=(cI .i64)) (e:=1) (fun _=>rfl) hy124 (off:=0) (by decide) (by first | omega | (simp only [Qak,orI,Qtb,Q63,Qc0,Qkt];omega)) ?_
   apply iU h<;>intro h
   ·refine cP h Q5b p2 fun v126 h=>?_;refine iL2 h fun h=>?_;refine Qk ?_;obtain ⟨hk129,h⟩:=Q54 h;refine Q2t (Xj (c:=(cI .u8)) (e:=1) (fun _=>rfl) sd hk129) ?_;refine Un (c:=(cI .u8)) [(wrap .u8 y111.ID)] rfl ?_;refine cD h Q09 (.cons (.p _) (.cons q4 .nil)) fun v130 h=>?_;refine Q9p (b:=v130) ?_;apply iU h<;>intro h
    ·show Exists _;exact ⟨(n0,(wrap .i64 (s107+1)),((l108:List Int).set (Int.toNat y111.ID) (wrap .i64 (y118+1))),(l109 ++ [(wrap .u8 y111.ID)])),h,Lg _,(rho [0,5]),Yr⟩
    obtain ⟨hk133,h⟩:=Q54 h;refine Q2t (Xj (c:=(cI .u8)) (e:=1) (l:=(l109 ++ [(wrap .u8 y111.ID)])) (fun _=>rfl) sd hk133) ?_;refine Un (c:=(cI .u8)) (l:=(l109 ++ [(wrap .u8 y111.ID)])) (v130.map fun b=>(b.toNat:Int)) rfl ?_;show Exists _;exact ⟨(n0,(wrap .i64 (s107+1)),((l108:List Int).set (Int.toNat y111.ID) (wrap .i64 (y118+1))),((l109 ++ [(wrap .u8 y111.ID)])++(v130.map fun b=>(b.toNat:Int)))),h,Lg _,(rho [0,6]),Yr⟩
   refine Qk ?_;obtain ⟨hk134,h⟩:=Q54 h;refine Q2t (Xj (c:=(cI .u8)) (e:=1) (fun _=>rfl) sd hk134) ?_;refine Un (c:=(cI .u8)) [(wrap .u8 y111.ID)] rfl ?_;refine cD h Q09 (.cons (.p _) (.cons q4 .nil)) fun v135 h=>?_;refine Q9p (b:=v135) ?_;apply iU h<;>intro h
   ·show Exists _;exact ⟨(n0,(wrap .i64 (s107+1)),((l108:List Int).set (Int.toNat y111.ID) (wrap .i64 (y118+1))),(l109 ++ [(wrap .u8 y111.ID)])),h,Lg _,(rho [0,5]),Yr⟩
   obtain ⟨hk138,h⟩:=Q54 h;refine Q2t (Xj (c:=(cI .u8)) (e:=1) (l:=(l109 ++ [(wrap .u8 y111.ID)])) (fun _=>rfl) sd hk138) ?_;refine Un (c:=(cI .u8)) (l:=(l109 ++ [(wrap .u8 y111.ID)])) (v135.map fun b=>(b.toNat:Int)) rfl ?_;show Exists _;exact ⟨(n0,(wrap .i64 (s107+1)),((l108:List Int).set (Int.toNat y111.ID) (wrap .i64 (y118+1))),((l109 ++ [(wrap .u8 y111.ID)])++(v135.map fun b=>(b.toNat:Int)))),h,Lg _,(rho [0,6]),Yr⟩
  refine cP h Q5i (.cons q4 (.cons (.p _) (.cons q4 .nil))) fun v139 h=>?_;refine iL2 h fun h=>?_;refine Qf Qzi ?_;refine Qk ?_;obtain ⟨hk144,h⟩:=Q54 h;refine Q2t hk144 ?_;obtain ⟨y142,hy143,h⟩:=Q01 h
  refine Q73 (c:=(cI .i64)) (e:=1) (fun _=>rfl) hy143 (off:=0) (by decide) (by first | omega | (simp only [Qak,orI,Qtb,Q63,Qc0,Qkt];omega)) ?_
  refine Q2t hk144 ?_;obtain ⟨y145,hy146,h⟩:=Q01 h;refine Q2t (Qbz (c:=(cI .i64)) (e:=1) (fun _=>rfl) hy146 (off:=0) (by omega) rfl (by decide)) ?_
  refine Qd6 (c:=(cI .i64)) (e:=1) (fun _=>rfl) hy146 (wrap .i64 (y142+1)) (off:=0) (by first | omega | (simp only [Qak,orI,Qtb,Q63,Qc0,Qkt];omega)) rfl (by simp) ?_
  refine Q2t hk144 ?_;obtain ⟨y147,hy148,h⟩:=Q01 h
  refine Q73 (c:=(cI .i64)) (e:=1) (fun _=>rfl) hy148 (off:=0) (by decide) (by first | omega | (simp only [Qak,orI,Qtb,Q63,Qc0,Qkt];omega)) ?_
  apply iU h<;>intro h
  ·refine cP h Q5b p2 fun v150 h=>?_;refine iL2 h fun h=>?_;refine Qk ?_;obtain ⟨hk153,h⟩:=Q54 h;refine Q2t (Xj (c:=(cI .u8)) (e:=1) (fun _=>rfl) sd hk153) ?_;refine Un (c:=(cI .u8)) [(wrap .u8 y111.ID)] rfl ?_;refine cD h Q09 (.cons (.p _) (.cons q4 .nil)) fun v154 h=>?_;refine Q9p (b:=v154) ?_;apply iU h<;>intro h
   ·show Exists _;exact ⟨(n0,(wrap .i64 (s107+1)),((l108:List Int).set (Int.toNat y111.ID) (wrap .i64 (y142+1))),(l109 ++ [(wrap .u8 y111.ID)])),h,Lg _,(rho [0,5]),Yr⟩
   obtain ⟨hk157,h⟩:=Q54 h;refine Q2t (Xj (c:=(cI .u8)) (e:=1) (l:=(l109 ++ [(wrap .u8 y111.ID)])) (fun _=>rfl) sd hk157) ?_;refine Un (c:=(cI .u8)) (l:=(l109 ++ [(wrap .u8 y111.ID)])) (v154.map fun b=>(b.toNat:Int)) rfl ?_;show Exists _;exact ⟨(n0,(wrap .i64 (s107+1)),((l108:List Int).set (Int.toNat y111.ID) (wrap .i64 (y142+1))),((l109 ++ [(wrap .u8 y111.ID)])++(v154.map fun b=>(b.toNat:Int)))),h,Lg _,(rho [0,6]),Yr⟩
  refine Qk ?_;obtain ⟨hk158,h⟩:=Q54 h;refine Q2t (Xj (c:=(cI .u8)) (e:=1) (fun _=>rfl) sd hk158) ?_;refine Un (c:=(cI .u8)) [(wrap .u8 y111.ID)] rfl ?_;refine cD h Q09 (.cons (.p _) (.cons q4 .nil)) fun v159 h=>?_;refine Q9p (b:=v159) ?_;apply iU h<;>intro h
  ·show Exists _;exact ⟨(n0,(wrap .i64 (s107+1)),((l108:List Int).set (Int.toNat y111.ID) (wrap .i64 (y142+1))),(l109 ++ [(wrap .u8 y111.ID)])),h,Lg _,(rho [0,5]),Yr⟩
  obtain ⟨hk162,h⟩:=Q54 h;refine Q2t (Xj (c:=(cI .u8)) (e:=1) (l:=(l109 ++ [(wrap .u8 y111.ID)])) (fun _=>rfl) sd hk162) ?_;refine Un (c:=(cI .u8)) (l:=(l109 ++ [(wrap .u8 y111.ID)])) (v159.map fun b=>(b.toNat:Int)) rfl ?_;show Exists _;exact ⟨(n0,(wrap .i64 (s107+1)),((l108:List Int).set (Int.toNat y111.ID) (wrap .i64 (y142+1))),((l109 ++ [(wrap .u8 y111.ID)])++(v159.map fun b=>(b.toNat:Int)))),h,Lg _,(rho [0,6]),Yr⟩
 refine Qf Z3r ?_;obtain ⟨y163,hy164,h⟩:=Q01 h;refine Q73 (c:=(cI .i64)) (e:=1) (n:=1) (j:=22) (fun _=>rfl) hy164 (off:=0) (by decide) rfl ?_;apply iU h<;>intro h
 ·obtain ⟨y166,hy167,h⟩:=Q01 h;refine Q73 (c:=(cI .i64)) (e:=1) (n:=1) (j:=21) (fun _=>rfl) hy167 (off:=0) (by decide) rfl ?_;refine iL2 h fun h=>?_;refine cP h Q0x p1 fun v169 h=>?_;refine iL2 h fun h=>?_;refine Qie (l:=l109) (n:=l109.length) sd ?_;refine kU h fun h=>?_;obtain rfl:=Qv h;exact u2
 refine cP h Q0x p1 fun v173 h=>?_;refine iL2 h fun h=>?_;refine Qie (l:=l109) (n:=l109.length) sd ?_;refine kU h fun h=>?_;obtain rfl:=Qv h;exact u2
def Xc (N:Nat) (kind:Int) (l:List Zq):Option Int:=
 (Q5w N kind l).bind fun v1=>
 some v1.2
theorem Qd7 {N} {kind} {l} {r} (h:Xc N kind l=some r):pU 71 [.int .i64 kind,.slice 4 (Q9 Zq.cells l)] (.int .i64 r):=by
 refine Q3 k71 ?_;unfold Xc at h;refine cP h Qcr p2 fun v1 h=>?_;cases h;exact (.p _)
def Gd (_N:Nat) (l:X2):Option Bool:=
 cond (Q5 .geq l.MaxPacket 16)
 (cond (Q5 .leq l.MaxPacket 1048576)
 (cond (Q5 .geq l.MaxDepth 0)
 (some (Q5 .leq l.MaxDepth 32))
 (some false))
 (some false))
 (some false)
theorem Q9g {N} {l} {r} (h:Gd N l=some r):pU 153 [.agg (X2.cells l)] (.bool r):=by
 refine Q3 Zbq ?_;unfold Gd at h;rw [cX] at h;refine iR h fun h=>?_;refine iR h fun h=>?_;exact iB h
def Ug (_N:Nat) (h_0:V0):Option Bool:=
 cond (Q5 .geq h_0.Radius 0)
 (cond (Q5 .leq h_0.Radius 3)
 (cond (Q5 .geq (h_0.Node.length:Int) 1)
 (some (Q5 .leq (h_0.Node.length:Int) 32))
 (some false))
 (some false))
 (some false)
theorem Q6q {N} {h_0} {r} (h:Ug N h_0=some r):pU 156 [.agg (V0.cells h_0)] (.bool r):=by
 refine Q3 Z57 ?_;unfold Ug at h;rw [cX] at h;refine iR h fun h=>?_;refine iR h fun h=>?_;exact iB h
def J4 (N:Nat) (h_0:V0):Option Bool:=
 (Ug N h_0).bind fun v1=>
 some (!v1)
theorem Q76 {N} {h_0} {r} (h:J4 N h_0=some r):pU 155 [.agg (V0.cells h_0)] (.bool r):=by
 refine Q3 Z2v ?_;unfold J4 at h;refine cP h Q6q (.cons q2 .nil) fun v1 h=>?_;cases h;exact (.p _)
def U3 (_N:Nat) (f:Qp):Option (Int×Int):=
 cond (Q5 .lss f.QoS (-1))
 (some (0,7))
 (cond (Q5 .gtr f.QoS 2)
 (some (0,7))
 (cond (Q5 .lss f.Type' 0)
 (some (0,7))
 (cond (Q5 .gtr f.Type' 2)
 (some (0,7))
 (cond f.Clean
 (cond f.Will
 (cond f.Retain
 (cond f.Dup
 (some ((orI .i64 (orI .i64 (orI .i64 (orI .i64 (orI .i64 f.Type' 4) 8) 16) 128) (wrap .i64 ((Qak .i64 f.QoS 3) * 32))),0))
 (some ((orI .i64 (orI .i64 (orI .i64 (orI .i64 f.Type' 4) 8) 16) (wrap .i64 ((Qak .i64 f.QoS 3) * 32))),0)))
 (cond f.Dup
 (some ((orI .i64 (orI .i64 (orI .i64 (orI .i64 f.Type' 4) 8) 128) (wrap .i64 ((Qak .i64 f.QoS 3) * 32))),0))
 (some ((orI .i64 (orI .i64 (orI .i64 f.Type' 4) 8) (wrap .i64 ((Qak .i64 f.QoS 3) * 32))),0))))
 (cond f.Retain
 (cond f.Dup
 (some ((orI .i64 (orI .i64 (orI .i64 (orI .i64 f.Type' 4) 16) 128) (wrap .i64 ((Qak .i64 f.QoS 3) * 32))),0))
 (some ((orI .i64 (orI .i64 (orI .i64 f.Type' 4) 16) (wrap .i64 ((Qak .i64 f.QoS 3) * 32))),0)))
 (cond f.Dup
 (some ((orI .i64 (orI .i64 (orI .i64 f.Type' 4) 128) (wrap .i64 ((Qak .i64 f.QoS 3) * 32))),0))
 (some ((orI .i64 (orI .i64 f.Type' 4) (wrap .i64 ((Qak .i64 f.QoS 3) * 32))),0)))))
 (cond f.Will
 (cond f.Retain
 (cond f.Dup
 (some ((orI .i64 (orI .i64 (orI .i64 (orI .i64 f.Type' 8) 16) 128) (wrap .i64 ((Qak .i64 f.QoS 3) * 32))),0))
 (some ((orI .i64 (orI .i64 (orI .i64 f.Type' 8) 16) (wrap .i64 ((Qak .i64 f.QoS 3) * 32))),0)))
 (cond f.Dup
 (some ((orI .i64 (orI .i64 (orI .i64 f.Type' 8) 128) (wrap .i64 ((Qak .i64 f.QoS 3) * 32))),0))
 (some ((orI .i64 (orI .i64 f.Type' 8) (wrap .i64 ((Qak .i64 f.QoS 3) * 32))),0))))
 (cond f.Retain
 (cond f.Dup
 (some ((orI .i64 (orI .i64 (orI .i64 f.Type' 16) 128) (wrap .i64 ((Qak .i64 f.QoS 3) * 32))),0))
 (some ((orI .i64 (orI .i64 f.Type' 16) (wrap .i64 ((Qak .i64 f.QoS 3) * 32))),0)))
 (cond f.Dup
 (some ((orI .i64 (orI .i64 f.Type' 128) (wrap .i64 ((Qak .i64 f.QoS 3) * 32))),0))
 (some ((orI .i64 f.Type' (wrap .i64 ((Qak .i64 f.QoS 3) * 32))),0)))))))))
theorem Q4w {N} {f} {r} (h:U3 N f=some r):pU 248 [.agg (Qp.cells f)] (.tuple [.int .i64 r.1,.int .i64 r.2]):=by
 refine Q3 Zce ?_;unfold U3 at h;rw [cX] at h;refine iL2 h fun h=>?_;refine iL2 h fun h=>?_;refine iL2 h fun h=>?_;refine iL2 h fun h=>?_;refine Qf Qik ?_;apply iU h<;>intro h
 ·refine Qf Qik ?_;apply iU h<;>intro h
  ·refine Qf Qik ?_;apply iU h<;>intro h
   ·refine Qf Qik ?_;exact iB2 h
   refine Qf Qik ?_;exact iB2 h
  refine Qf Qik ?_;apply iU h<;>intro h
  ·refine Qf Qik ?_;exact iB2 h
  refine Qf Qik ?_;exact iB2 h
 refine Qf Qik ?_;apply iU h<;>intro h
 ·refine Qf Qik ?_;apply iU h<;>intro h
  ·refine Qf Qik ?_;exact iB2 h
  refine Qf Qik ?_;exact iB2 h
 refine Qf Qik ?_;apply iU h<;>intro h
 ·refine Qf Qik ?_;exact iB2 h
 refine Qf Qik ?_;exact iB2 h
def Z8 (N:Nat) (c:Qa):Option ((Unit)×Qa):=
 (U3 N c.m.Flags).bind fun v1=>
 cond (Q5 .eql c.do' 2)
 (some ((),c))
 (cond (Q5 .eql c.do' 0)
 ((Uw N []).bind fun v5=>
 some ((),c))
 (cond (Q5 .eql c.do' 1)
 ((Zy N (wrap .u64 v1.1) 1).bind fun v8=>
 cond (!(Nat.beq v8.length 0)) (cond (Nat.ble ((c.out.length+v8.length+4096) * 1) 17592186044416) (some ((),(⟨c.do',c.m,(c.out++(v8.map fun b=>(b.toNat:Int))),c.bad⟩:Qa))) none) none)
 (cond c.bad
 (some ((),(⟨c.do',c.m,c.out,true⟩:Qa)))
 (cond (Q5 .lss v1.1 0)
 (some ((),(⟨c.do',c.m,c.out,true⟩:Qa)))
 (some ((),(⟨c.do',c.m,c.out,(Q5 .geq v1.1 (Qc0 .i64 1 8))⟩:Qa)))))))
theorem Wb {N} {c} {r} (h:Z8 N c=some r):gU 276 (.ptr 0 0 :: []) (.cells (Q4v c 1) :: .cells (W8 (cI .u8) c.out) :: []) (.tuple []) (.cells (Q4v r.2 2) :: .dead :: .cells (W8 (cI .u8) r.2.out) :: []):=by
 refine Vm Z8f (Lr rfl) ?_;unfold Z8 at h;rw [cX] at h;refine cP h Q4w (.cons (Frz.agg' (.cons (.p _) p5)) .nil) fun v1 h=>?_;apply iU h<;>intro h
 ·obtain rfl:=Qv h;show Exists _;exact ⟨(rho [0,1,1]),Yr⟩
 refine Qf Qyv ?_;refine ifO h (fun hc4 h=>?_) (fun hc4 h=>?_)
 ·refine Qf Qys ?_;refine Qf Qwp ?_;refine Qf Qws ?_;refine cP h Q17 p1 fun v5 h=>?_;refine ifT hc4 ?_;refine Qf Z88 ?_;refine dF ?_;obtain rfl:=Qv h;show Exists _;exact ⟨(rho [0,1,1]),Yr⟩
 apply iU h<;>intro h
 ·refine Qk ?_;refine cD h Y0 p2 fun v8 h=>?_;refine Q9p (b:=v8) ?_;obtain ⟨hk10,h⟩:=Q54 h;refine ifF (Qw3 hk10) ?_;obtain ⟨hk11,h⟩:=Q54 h;refine Q2t (Xj (c:=(cI .u8)) (e:=1) (l:=c.out) (fun _=>rfl) sd hk11) ?_;refine Un (c:=(cI .u8)) (l:=c.out) (v8.map fun b=>(b.toNat:Int)) rfl ?_;refine ifF hc4 ?_;obtain rfl:=Qv h;show Exists _;exact ⟨(rho [0,1,3]),Yr⟩
 refine Qk ?_;apply iU h<;>intro h
 ·refine ifF hc4 ?_;obtain rfl:=Qv h;show Exists _;exact ⟨(rho [0,1,1]),Yr⟩
 apply iU h<;>intro h
 ·refine ifF hc4 ?_;obtain rfl:=Qv h;show Exists _;exact ⟨(rho [0,1,1]),Yr⟩
 refine ifF hc4 ?_;obtain rfl:=Qv h;show Exists _;exact ⟨(rho [0,1,1]),Yr⟩
def Ye (_N:Nat) (c:Qa):Option ((Unit)×Qa):=
 cond (Q5 .eql c.do' 0)
 (some ((),(⟨c.do',(⟨c.m.Type',c.m.Flags,c.m.Gateway,c.m.Radius,c.m.Time,c.m.Timed,c.m.TopicID,c.m.MsgID,c.m.Code,c.m.Name,[]⟩:Wh),c.out,c.bad⟩:Qa)))
 (cond (Q5 .eql c.do' 1)
 (cond (Nat.beq c.m.Data.length 0)
 (some ((),c))
 (cond (Nat.ble ((c.out.length+c.m.Data.length+4096) * 1) 17592186044416) (some ((),(⟨c.do',c.m,(c.out++(c.m.Data.map fun b=>(b.toNat:Int))),c.bad⟩:Qa))) none))
 (some ((),(⟨c.do',(⟨c.m.Type',c.m.Flags,c.m.Gateway,c.m.Radius,c.m.Time,c.m.Timed,c.m.TopicID,c.m.MsgID,c.m.Code,c.m.Name,[]⟩:Wh),c.out,c.bad⟩:Qa))))
theorem Jm {N} {c} {r} (h:Ye N c=some r):gU 280 (.ptr 0 0 :: []) (.cells (Q4v c 1) :: .cells (W8 (cI .u8) c.out) :: []) (.tuple []) (.cells (Q4v r.2 2) :: .dead :: .cells (W8 (cI .u8) r.2.out) :: []):=by
 refine Vm Zby (Lr rfl) ?_;unfold Ye at h;rw [cX] at h;refine Qf Z22 ?_;apply iU h<;>intro h
 ·refine Qk ?_;refine Q7i [] (r:=iI 0) rfl rfl (fun a ha o ho=>?_) (Qf Z0s ?_) ?_
  ·simp at ha
  ·refine Qf Z2j ?_;exact ⟨rfl,[],(Nq _).symm⟩
  refine Q7i [] (r:=iS []) rfl rfl (fun a ha o ho=>?_) (Qf Qwp ?_) ?_
  ·simp at ha
  ·refine Qf Qws ?_;exact ⟨rfl,[],(Nq _).symm⟩
  obtain rfl:=Qv h;show Exists _;exact ⟨(rho [0,1,1]),Yr⟩
 apply iU h<;>intro h
 ·refine Qk ?_;refine Q9p (b:=c.m.Data) ?_;apply iU h<;>intro h
  ·obtain rfl:=Qv h;show Exists _;exact ⟨(rho [0,1,1]),Yr⟩
  obtain ⟨hk4,h⟩:=Q54 h;refine Q2t (Xj (c:=(cI .u8)) (e:=1) (l:=c.out) (fun _=>rfl) sd hk4) ?_;refine Un (c:=(cI .u8)) (l:=c.out) (c.m.Data.map fun b=>(b.toNat:Int)) rfl ?_;obtain rfl:=Qv h;show Exists _;exact ⟨(rho [0,1,2]),Yr⟩
 obtain rfl:=Qv h;show Exists _;exact ⟨(rho [0,1,1]),Yr⟩
def Y2 (N:Nat) (c:Qa):Option ((Unit)×Qa):=
 cond (Q5 .eql c.do' 0)
 ((Uw N []).bind fun v2=>
 some ((),(⟨c.do',(⟨c.m.Type',c.m.Flags,c.m.Gateway,c.m.Radius,c.m.Time,c.m.Timed,(wrap .i64 v2),c.m.MsgID,c.m.Code,c.m.Name,c.m.Data⟩:Wh),c.out,c.bad⟩:Qa)))
 (cond (Q5 .eql c.do' 1)
 ((Zy N (wrap .u64 c.m.TopicID) 2).bind fun v5=>
 cond (!(Nat.beq v5.length 0)) (cond (Nat.ble ((c.out.length+v5.length+4096) * 1) 17592186044416) (some ((),(⟨c.do',c.m,(c.out++(v5.map fun b=>(b.toNat:Int))),c.bad⟩:Qa))) none) none)
 (cond c.bad
 (some ((),(⟨c.do',(⟨c.m.Type',c.m.Flags,c.m.Gateway,c.m.Radius,c.m.Time,c.m.Timed,0,c.m.MsgID,c.m.Code,c.m.Name,c.m.Data⟩:Wh),c.out,true⟩:Qa)))
 (cond (Q5 .lss c.m.TopicID 0)
 (some ((),(⟨c.do',(⟨c.m.Type',c.m.Flags,c.m.Gateway,c.m.Radius,c.m.Time,c.m.Timed,0,c.m.MsgID,c.m.Code,c.m.Name,c.m.Data⟩:Wh),c.out,true⟩:Qa)))
 (some ((),(⟨c.do',(⟨c.m.Type',c.m.Flags,c.m.Gateway,c.m.Radius,c.m.Time,c.m.Timed,0,c.m.MsgID,c.m.Code,c.m.Name,c.m.Data⟩:Wh),c.out,(Q5 .geq c.m.TopicID (Qc0 .i64 1 16))⟩:Qa))))))
theorem Vl {N} {c} {r} (h:Y2 N c=some r):gU 281 (.ptr 0 0 :: []) (.cells (Q4v c 1) :: .cells (W8 (cI .u8) c.out) :: []) (.tuple []) (.cells (Q4v r.2 2) :: .dead :: .cells (W8 (cI .u8) r.2.out) :: []):=by
 refine Vm Z7r (Lr rfl) ?_;unfold Y2 at h;rw [cX] at h;refine Qf Qyv ?_;apply iU h<;>intro h
 ·refine Qf Qys ?_;refine Qf Qwp ?_;refine Qf Qws ?_;refine cP h Q17 p1 fun v2 h=>?_;obtain rfl:=Qv h;show Exists _;exact ⟨(rho [0,1,1]),Yr⟩
 apply iU h<;>intro h
 ·refine Qk ?_;refine cD h Y0 p2 fun v5 h=>?_;refine Q9p (b:=v5) ?_;obtain ⟨hk7,h⟩:=Q54 h;refine ifF (Qw3 hk7) ?_;obtain ⟨hk8,h⟩:=Q54 h;refine Q2t (Xj (c:=(cI .u8)) (e:=1) (l:=c.out) (fun _=>rfl) sd hk8) ?_;refine Un (c:=(cI .u8)) (l:=c.out) (v5.map fun b=>(b.toNat:Int)) rfl ?_;obtain rfl:=Qv h;show Exists _;exact ⟨(rho [0,1,2]),Yr⟩
 refine Qk ?_;apply iU h<;>intro h
 ·obtain rfl:=Qv h;show Exists _;exact ⟨(rho [0,1,1]),Yr⟩
 apply iU h<;>intro h
 ·obtain rfl:=Qv h;show Exists _;exact ⟨(rho [0,1,1]),Yr⟩
 obtain rfl:=Qv h;show Exists _;exact ⟨(rho [0,1,1]),Yr⟩
def Qs (N:Nat) (c:Qa):Option ((Unit)×Qa):=
 cond (Q5 .eql c.do' 0)
 ((Uw N []).bind fun v2=>
 some ((),(⟨c.do',(⟨c.m.Type',c.m.Flags,c.m.Gateway,c.m.Radius,c.m.Time,c.m.Timed,c.m.TopicID,(wrap .i64 v2),c.m.Code,c.m.Name,c.m.Data⟩:Wh),c.out,c.bad⟩:Qa)))
 (cond (Q5 .eql c.do' 1)
 ((Zy N (wrap .u64 c.m.MsgID) 2).bind fun v5=>
 cond (!(Nat.beq v5.length 0)) (cond (Nat.ble ((c.out.length+v5.length+4096) * 1) 17592186044416) (some ((),(⟨c.do',c.m,(c.out++(v5.map fun b=>(b.toNat:Int))),c.bad⟩:Qa))) none) none)
 (cond c.bad
 (some ((),(⟨c.do',(⟨c.m.Type',c.m.Flags,c.m.Gateway,c.m.Radius,c.m.Time,c.m.Timed,c.m.TopicID,0,c.m.Code,c.m.Name,c.m.Data⟩:Wh),c.out,true⟩:Qa)))
 (cond (Q5 .lss c.m.MsgID 0)
 (some ((),(⟨c.do',(⟨c.m.Type',c.m.Flags,c.m.Gateway,c.m.Radius,c.m.Time,c.m.Timed,c.m.TopicID,0,c.m.Code,c.m.Name,c.m.Data⟩:Wh),c.out,true⟩:Qa)))
 (some ((),(⟨c.do',(⟨c.m.Type',c.m.Flags,c.m.Gateway,c.m.Radius,c.m.Time,c.m.Timed,c.m.TopicID,0,c.m.Code,c.m.Name,c.m.Data⟩:Wh),c.out,(Q5 .geq c.m.MsgID (Qc0 .i64 1 16))⟩:Qa))))))
theorem Zr {N} {c} {r} (h:Qs N c=some r):gU 282 (.ptr 0 0 :: []) (.cells (Q4v c 1) :: .cells (W8 (cI .u8) c.out) :: []) (.tuple []) (.cells (Q4v r.2 2) :: .dead :: .cells (W8 (cI .u8) r.2.out) :: []):=by
 refine Vm Zav (Lr rfl) ?_;unfold Qs at h;rw [cX] at h;refine Qf Qyv ?_;apply iU h<;>intro h
 ·refine Qf Qys ?_;refine Qf Qwp ?_;refine Qf Qws ?_;refine cP h Q17 p1 fun v2 h=>?_;obtain rfl:=Qv h;show Exists _;exact ⟨(rho [0,1,1]),Yr⟩
 apply iU h<;>intro h
 ·refine Qk ?_;refine cD h Y0 p2 fun v5 h=>?_;refine Q9p (b:=v5) ?_;obtain ⟨hk7,h⟩:=Q54 h;refine ifF (Qw3 hk7) ?_;obtain ⟨hk8,h⟩:=Q54 h;refine Q2t (Xj (c:=(cI .u8)) (e:=1) (l:=c.out) (fun _=>rfl) sd hk8) ?_;refine Un (c:=(cI .u8)) (l:=c.out) (v5.map fun b=>(b.toNat:Int)) rfl ?_;obtain rfl:=Qv h;show Exists _;exact ⟨(rho [0,1,2]),Yr⟩
 refine Qk ?_;apply iU h<;>intro h
 ·obtain rfl:=Qv h;show Exists _;exact ⟨(rho [0,1,1]),Yr⟩
 apply iU h<;>intro h
 ·obtain rfl:=Qv h;show Exists _;exact ⟨(rho [0,1,1]),Yr⟩
 obtain rfl:=Qv h;show Exists _;exact ⟨(rho [0,1,1]),Yr⟩
def Wv (N:Nat) (c:Qa):Nat→Option ((Unit)×Qa)
 | 0=>none
 | n+1=>
  some ((),c)
def Qy (N:Nat) (c:Qa):Option ((Unit)×Qa):=
 cond (Q5 .eql c.m.Type' 0)
 (none)
 (cond (Q5 .eql c.m.Type' 1)
 (none)
 (cond (Q5 .eql c.m.Type' 2)
 (none)
 (cond (Q5 .eql c.m.Type' 4)
 ((Z8 N c).bind fun v5=>
 none)
 (cond (Q5 .eql c.m.Type' 5)
 (none)
 (cond (Q5 .eql c.m.Type' 27)
 (none)
 (cond (Q5 .eql c.m.Type' 29)
 (none)
 (cond (Q5 .eql c.m.Type' 7)
 (none)
 (cond (Q5 .eql c.m.Type' 26)
 (none)
 (cond (Q5 .eql c.m.Type' 9)
 ((Ye N c).bind fun v13=>
 some ((),v13.2))
 (cond (Q5 .eql c.m.Type' 28)
 ((Ye N c).bind fun v16=>
 some ((),v16.2))
 (cond (Q5 .eql c.m.Type' 10)
 ((Y2 N c).bind fun v19=>
 (Qs N v19.2).bind fun v21=>
 none)
 (cond (Q5 .eql c.m.Type' 11)
 ((Y2 N c).bind fun v24=>
 (Qs N v24.2).bind fun v26=>
 none)
 (cond (Q5 .eql c.m.Type' 13)
 ((Y2 N c).bind fun v29=>
 (Qs N v29.2).bind fun v31=>
 none)
 (cond (Q5 .eql c.m.Type' 12)
 ((Z8 N c).bind fun v34=>
 (Y2 N v34.2).bind fun v36=>
 (Qs N v36.2).bind fun v38=>
 (Ye N v38.2).bind fun v40=>
 some ((),v40.2))
 (cond (Q5 .eql c.m.Type' 14)
 ((Qs N c).bind fun v43=>
 some ((),v43.2))
 (cond (Q5 .eql c.m.Type' 15)
 ((Qs N c).bind fun v46=>
 some ((),v46.2))
 (cond (Q5 .eql c.m.Type' 16)
 ((Qs N c).bind fun v49=>
 some ((),v49.2))
 (cond (Q5 .eql c.m.Type' 21)
 ((Qs N c).bind fun v52=>
 some ((),v52.2))
 (cond (Q5 .eql c.m.Type' 18)
 ((Z8 N c).bind fun v55=>
 (Qs N v55.2).bind fun v57=>
 none)
 (cond (Q5 .eql c.m.Type' 20)
 ((Z8 N c).bind fun v60=>
 (Qs N v60.2).bind fun v62=>
 none)
 (cond (Q5 .eql c.m.Type' 19)
 ((Z8 N c).bind fun v65=>
 (Y2 N v65.2).bind fun v67=>
 (Qs N v67.2).bind fun v69=>
 none)
 (cond (Q5 .eql c.m.Type' 22)
 (none)
 (cond (Q5 .eql c.m.Type' 24)
 (none)
 (Wv N c N))))))))))))))))))))))))
theorem Wu {N} {c} {r} (h:Qy N c=some r):gU 220 (.ptr 0 0 :: []) (.cells (Q4v c 1) :: .cells (W8 (cI .u8) c.out) :: []) (.tuple []) (.cells (Q4v r.2 2) :: .dead :: .cells (W8 (cI .u8) r.2.out) :: []):=by
 refine Vm Z8v (Lr rfl) ?_;unfold Qy at h;rw [cX] at h;refine Qf Z2q ?_;apply iU h<;>intro h
 ·refine Qx 2 ?_;refine dT ?_
  first | (cases h;done) | (simp [Vt] at h;done)
 apply iU h<;>intro h
 ·refine Qx 2 ?_;refine dT ?_
  first | (cases h;done) | (simp [Vt] at h;done)
 apply iU h<;>intro h
 ·refine Qx 2 ?_;refine dT ?_
  first | (cases h;done) | (simp [Vt] at h;done)
 apply iU h<;>intro h
 ·refine Qx 3 ?_;refine dT ?_;refine cG h Wb fun v5 h=>?_;refine ⟨rho [0,1],(.cells (Q4v v5.2 3) :: .dead :: .cells (.func (.func 276) [.ptr 0 0] [] :: .func (.func 277) [.ptr 0 0] [] :: .func (.func 273) [.ptr 0 0] [] :: .func (.func 275) [.ptr 0 0] [] :: []) :: .cells (W8 (cI .u8) v5.2.out) :: []),.tuple [],gcQ,?_⟩;refine dT ?_
  first | (cases h;done) | (simp [Vt] at h;done)
 refine ifO h (fun hc7 h=>?_) (fun hc7 h=>?_)
 ·refine ifT hc7 ?_;refine Qx 2 ?_;refine dT ?_
  first | (cases h;done) | (simp [Vt] at h;done)
 refine ifO h (fun hc8 h=>?_) (fun hc8 h=>?_)
 ·refine ifT hc8 ?_;refine Qx 2 ?_;refine dT ?_
  first | (cases h;done) | (simp [Vt] at h;done)
 apply iU h<;>intro h
 ·refine Qx 2 ?_;refine dT ?_
  first | (cases h;done) | (simp [Vt] at h;done)
 refine ifO h (fun hc10 h=>?_) (fun hc10 h=>?_)
 ·refine ifT hc10 ?_;refine Qx 2 ?_;refine dT ?_
  first | (cases h;done) | (simp [Vt] at h;done)
 apply iU h<;>intro h
 ·refine Qx 2 ?_;refine dT ?_
  first | (cases h;done) | (simp [Vt] at h;done)
 refine ifO h (fun hc12 h=>?_) (fun hc12 h=>?_)
 ·refine ifT hc12 ?_;refine Qx 3 ?_;refine dT ?_;refine cG h Jm fun v13 h=>?_;refine ⟨rho [0,1],(.cells (Q4v v13.2 3) :: .dead :: .cells (.func (.func 280) [.ptr 0 0] [] :: []) :: .cells (W8 (cI .u8) v13.2.out) :: []),.tuple [],gcQ,?_⟩;refine dF ?_;obtain rfl:=Qv h;show Exists _;exact ⟨(rho [0,1,3]),Yr⟩
 apply iU h<;>intro h
 ·refine Qx 3 ?_;refine dT ?_;refine cG h Jm fun v16 h=>?_;refine ⟨rho [0,1],(.cells (Q4v v16.2 3) :: .dead :: .cells (.func (.func 280) [.ptr 0 0] [] :: []) :: .cells (W8 (cI .u8) v16.2.out) :: []),.tuple [],gcQ,?_⟩;refine dF ?_;obtain rfl:=Qv h;show Exists _;exact ⟨(rho [0,1,3]),Yr⟩
 apply iU h<;>intro h
 ·refine Qx 4 ?_;refine dT ?_;refine cG h Vl fun v19 h=>?_;refine ⟨rho [0,1],(.cells (Q4v v19.2 3) :: .dead :: .cells (.func (.func 281) [.ptr 0 0] [] :: .func (.func 282) [.ptr 0 0] [] :: .func (.func 275) [.ptr 0 0] [] :: []) :: .cells (W8 (cI .u8) v19.2.out) :: []),.tuple [],gcQ,?_⟩;refine dT ?_;refine cG h Zr fun v21 h=>?_;refine ⟨rho [0,3],(.cells (Q4v v21.2 4) :: .dead :: .cells (.func (.func 281) [.ptr 0 0] [] :: .func (.func 282) [.ptr 0 0] [] :: .func (.func 275) [.ptr 0 0] [] :: []) :: .dead :: .cells (W8 (cI .u8) v21.2.out) :: []),.tuple [],gcQ,?_⟩;refine dT ?_
  first | (cases h;done) | (simp [Vt] at h;done)
 refine ifO h (fun hc23 h=>?_) (fun hc23 h=>?_)
 ·refine ifT hc23 ?_;refine Qx 4 ?_;refine dT ?_;refine cG h Vl fun v24 h=>?_;refine ⟨rho [0,1],(.cells (Q4v v24.2 3) :: .dead :: .cells (.func (.func 281) [.ptr 0 0] [] :: .func (.func 282) [.ptr 0 0] [] :: .func (.func 278) [.ptr 0 0] [] :: []) :: .cells (W8 (cI .u8) v24.2.out) :: []),.tuple [],gcQ,?_⟩;refine dT ?_;refine cG h Zr fun v26 h=>?_;refine ⟨rho [0,3],(.cells (Q4v v26.2 4) :: .dead :: .cells (.func (.func 281) [.ptr 0 0] [] :: .func (.func 282) [.ptr 0 0] [] :: .func (.func 278) [.ptr 0 0] [] :: []) :: .dead :: .cells (W8 (cI .u8) v26.2.out) :: []),.tuple [],gcQ,?_⟩;refine dT ?_
  first | (cases h;done) | (simp [Vt] at h;done)
 apply iU h<;>intro h
 ·refine Qx 4 ?_;refine dT ?_;refine cG h Vl fun v29 h=>?_;refine ⟨rho [0,1],(.cells (Q4v v29.2 3) :: .dead :: .cells (.func (.func 281) [.ptr 0 0] [] :: .func (.func 282) [.ptr 0 0] [] :: .func (.func 278) [.ptr 0 0] [] :: []) :: .cells (W8 (cI .u8) v29.2.out) :: []),.tuple [],gcQ,?_⟩;refine dT ?_;refine cG h Zr fun v31 h=>?_;refine ⟨rho [0,3],(.cells (Q4v v31.2 4) :: .dead :: .cells (.func (.func 281) [.ptr 0 0] [] :: .func (.func 282) [.ptr 0 0] [] :: .func (.func 278) [.ptr 0 0] [] :: []) :: .dead :: .cells (W8 (cI .u8) v31.2.out) :: []),.tuple [],gcQ,?_⟩;refine dT ?_
  first | (cases h;done) | (simp [Vt] at h;done)
 apply iU h<;>intro h
 ·refine Qx 6 ?_;refine dT ?_;refine cG h Wb fun v34 h=>?_;refine ⟨rho [0,1],(.cells (Q4v v34.2 3) :: .dead :: .cells (.func (.func 276) [.ptr 0 0] [] :: .func (.func 281) [.ptr 0 0] [] :: .func (.func 282) [.ptr 0 0] [] :: .func (.func 280) [.ptr 0 0] [] :: []) :: .cells (W8 (cI .u8) v34.2.out) :: []),.tuple [],gcQ,?_⟩;refine dT ?_;refine cG h Vl fun v36 h=>?_;refine ⟨rho [0,3],(.cells (Q4v v36.2 4) :: .dead :: .cells (.func (.func 276) [.ptr 0 0] [] :: .func (.func 281) [.ptr 0 0] [] :: .func (.func 282) [.ptr 0 0] [] :: .func (.func 280) [.ptr 0 0] [] :: []) :: .dead :: .cells (W8 (cI .u8) v36.2.out) :: []),.tuple [],gcQ,?_⟩;refine dT ?_;refine cG h Zr fun v38 h=>?_;refine ⟨rho [0,4],(.cells (Q4v v38.2 5) :: .dead :: .cells (.func (.func 276) [.ptr 0 0] [] :: .func (.func 281) [.ptr 0 0] [] :: .func (.func 282) [.ptr 0 0] [] :: .func (.func 280) [.ptr 0 0] [] :: []) :: .dead :: .dead :: .cells (W8 (cI .u8) v38.2.out) :: []),.tuple [],gcQ,?_⟩;refine dT ?_;refine cG h Jm fun v40 h=>?_;refine ⟨rho [0,5],(.cells (Q4v v40.2 6) :: .dead :: .cells (.func (.func 276) [.ptr 0 0] [] :: .func (.func 281) [.ptr 0 0] [] :: .func (.func 282) [.ptr 0 0] [] :: .func (.func 280) [.ptr 0 0] [] :: []) :: .dead :: .dead :: .dead :: .cells (W8 (cI .u8) v40.2.out) :: []),.tuple [],gcQ,?_⟩;refine dF ?_;obtain rfl:=Qv h;show Exists _;exact ⟨(rho [0,1,6]),Yr⟩
 refine ifO h (fun hc42 h=>?_) (fun hc42 h=>?_)
 ·refine ifT hc42 ?_;refine Qx 3 ?_;refine dT ?_;refine cG h Zr fun v43 h=>?_;refine ⟨rho [0,1],(.cells (Q4v v43.2 3) :: .dead :: .cells (.func (.func 282) [.ptr 0 0] [] :: []) :: .cells (W8 (cI .u8) v43.2.out) :: []),.tuple [],gcQ,?_⟩;refine dF ?_;obtain rfl:=Qv h;show Exists _;exact ⟨(rho [0,1,3]),Yr⟩
 refine ifO h (fun hc45 h=>?_) (fun hc45 h=>?_)
 ·refine ifT hc45 ?_;refine Qx 3 ?_;refine dT ?_;refine cG h Zr fun v46 h=>?_;refine ⟨rho [0,1],(.cells (Q4v v46.2 3) :: .dead :: .cells (.func (.func 282) [.ptr 0 0] [] :: []) :: .cells (W8 (cI .u8) v46.2.out) :: []),.tuple [],gcQ,?_⟩;refine dF ?_;obtain rfl:=Qv h;show Exists _;exact ⟨(rho [0,1,3]),Yr⟩
 refine ifO h (fun hc48 h=>?_) (fun hc48 h=>?_)
 ·refine ifT hc48 ?_;refine Qx 3 ?_;refine dT ?_;refine cG h Zr fun v49 h=>?_;refine ⟨rho [0,1],(.cells (Q4v v49.2 3) :: .dead :: .cells (.func (.func 282) [.ptr 0 0] [] :: []) :: .cells (W8 (cI .u8) v49.2.out) :: []),.tuple [],gcQ,?_⟩;refine dF ?_;obtain rfl:=Qv h;show Exists _;exact ⟨(rho [0,1,3]),Yr⟩
 apply iU h<;>intro h
 ·refine Qx 3 ?_;refine dT ?_;refine cG h Zr fun v52 h=>?_;refine ⟨rho [0,1],(.cells (Q4v v52.2 3) :: .dead :: .cells (.func (.func 282) [.ptr 0 0] [] :: []) :: .cells (W8 (cI .u8) v52.2.out) :: []),.tuple [],gcQ,?_⟩;refine dF ?_;obtain rfl:=Qv h;show Exists _;exact ⟨(rho [0,1,3]),Yr⟩
 refine ifO h (fun hc54 h=>?_) (fun hc54 h=>?_)
 ·refine ifT hc54 ?_;refine Qx 4 ?_;refine dT ?_;refine cG h Wb fun v55 h=>?_;refine ⟨rho [0,1],(.cells (Q4v v55.2 3) :: .dead :: .cells (.func (.func 276) [.ptr 0 0] [] :: .func (.func 282) [.ptr 0 0] [] :: .func (.func 283) [.ptr 0 0] [] :: []) :: .cells (W8 (cI .u8) v55.2.out) :: []),.tuple [],gcQ,?_⟩;refine dT ?_;refine cG h Zr fun v57 h=>?_;refine ⟨rho [0,3],(.cells (Q4v v57.2 4) :: .dead :: .cells (.func (.func 276) [.ptr 0 0] [] :: .func (.func 282) [.ptr 0 0] [] :: .func (.func 283) [.ptr 0 0] [] :: []) :: .dead :: .cells (W8 (cI .u8) v57.2.out) :: []),.tuple [],gcQ,?_⟩;refine dT ?_
  first | (cases h;done) | (simp [Vt] at h;done)
 apply iU h<;>intro h
 ·refine Qx 4 ?_;refine dT ?_;refine cG h Wb fun v60 h=>?_;refine ⟨rho [0,1],(.cells (Q4v v60.2 3) :: .dead :: .cells (.func (.func 276) [.ptr 0 0] [] :: .func (.func 282) [.ptr 0 0] [] :: .func (.func 283) [.ptr 0 0] [] :: []) :: .cells (W8 (cI .u8) v60.2.out) :: []),.tuple [],gcQ,?_⟩;refine dT ?_;refine cG h Zr fun v62 h=>?_;refine ⟨rho [0,3],(.cells (Q4v v62.2 4) :: .dead :: .cells (.func (.func 276) [.ptr 0 0] [] :: .func (.func 282) [.ptr 0 0] [] :: .func (.func 283) [.ptr 0 0] [] :: []) :: .dead :: .cells (W8 (cI .u8) v62.2.out) :: []),.tuple [],gcQ,?_⟩;refine dT ?_
  first | (cases h;done) | (simp [Vt] at h;done)
 apply iU h<;>intro h
 ·refine Qx 5 ?_;refine dT ?_;refine cG h Wb fun v65 h=>?_;refine ⟨rho [0,1],(.cells (Q4v v65.2 3) :: .dead :: .cells (.func (.func 276) [.ptr 0 0] [] :: .func (.func 281) [.ptr 0 0] [] :: .func (.func 282) [.ptr 0 0] [] :: .func (.func 278) [.ptr 0 0] [] :: []) :: .cells (W8 (cI .u8) v65.2.out) :: []),.tuple [],gcQ,?_⟩;refine dT ?_;refine cG h Vl fun v67 h=>?_;refine ⟨rho [0,3],(.cells (Q4v v67.2 4) :: .dead :: .cells (.func (.func 276) [.ptr 0 0] [] :: .func (.func 281) [.ptr 0 0] [] :: .func (.func 282) [.ptr 0 0] [] :: .func (.func 278) [.ptr 0 0] [] :: []) :: .dead :: .cells (W8 (cI .u8) v67.2.out) :: []),.tuple [],gcQ,?_⟩;refine dT ?_;refine cG h Zr fun v69 h=>?_;refine ⟨rho [0,4],(.cells (Q4v v69.2 5) :: .dead :: .cells (.func (.func 276) [.ptr 0 0] [] :: .func (.func 281) [.ptr 0 0] [] :: .func (.func 282) [.ptr 0 0] [] :: .func (.func 278) [.ptr 0 0] [] :: []) :: .dead :: .dead :: .cells (W8 (cI .u8) v69.2.out) :: []),.tuple [],gcQ,?_⟩;refine dT ?_
  first | (cases h;done) | (simp [Vt] at h;done)
 apply iU h<;>intro h
 ·refine Qx 2 ?_;refine dT ?_
  first | (cases h;done) | (simp [Vt] at h;done)
 apply iU h<;>intro h
 ·refine Qx 2 ?_;refine dT ?_
  first | (cases h;done) | (simp [Vt] at h;done)
 refine lpH (τ:=Unit) (fun _=>(a4 (.any :: .p .nilSlice::iI 0::iI 0::a4 (a2 ([]))):List AV)) (fun n0 ⟨⟩=>Wv N c n0) () h fun n0 ⟨⟩ h=>?_
 first | rw [Wv] at h | simp only [Wv] at h
 refine dF ?_;obtain rfl:=Qv h;show Exists _;exact ⟨(rho [0,1,1]),Yr⟩
def V9 (N:Nat) (m:Wh):Option (List UInt8):=
 (Qy N (⟨1,m,[],false⟩:Qa)).bind fun v1=>
 some (v1.2.out.map fun n=>UInt8.ofNat n.toNat)
theorem Q04 {N} {m} {r} (h:V9 N m=some r):pU 196 [.agg (Wh.cells m)] (.str r):=by
 refine Q3 Z63 ?_;unfold V9 at h;refine cG h Wu fun v1 h=>?_;refine ⟨rho [1,3],(.cells (Qe6 m ([])) :: .cells (Q4v v1.2 2) :: .cells (W8 (cI .u8) v1.2.out) :: []),.tuple [],⟨(rE rfl <| rN),(hC rfl (rE rfl <| rE rfl <| rE rfl <| rE rfl <| rE rfl <| rE rfl <| rE rfl <| rE rfl <| rE rfl <| rE rfl <| rE rfl <| rE rfl <| rE rfl <| rE rfl <| rE rfl <| rE rfl <| rE rfl <| rE rfl <| rS <| rE rfl <| rN) <| hV lb <| hN),rfl,rfl,(roE rfl <| roE (Uy _ _ _) <| roN),rfl,(fK rfl rfl <| fR 0 rfl rfl rfl rfl <| fO 2 rfl rfl rfl <| fN),rfl⟩,?_⟩;refine Qie (l:=v1.2.out) (n:=v1.2.out.length) sd ?_;cases h;exact (.p _)
def J8 (_N:Nat) (kind:Int):Option Bool:=
 cond (Q5 .eql kind 3)
 (some false)
 (cond (Q5 .eql kind 17)
 (some false)
 (cond (Q5 .eql kind 25)
 (some false)
 (cond (Q5 .eql kind 254)
 (some true)
 (cond (Q5 .geq kind 0)
 (some (Q5 .leq kind 29))
 (some false)))))
theorem Q3x {N} {kind} {r} (h:J8 N kind=some r):pU 224 [.int .i64 kind] (.bool r):=by
 refine Q3 Z9w ?_;unfold J8 at h;rw [cX] at h;refine ifO h (fun hc1 h=>?_) (fun hc1 h=>?_)
 ·refine ifT hc1 ?_;cases h;exact (.p _)
 refine ifO h (fun hc2 h=>?_) (fun hc2 h=>?_)
 ·refine ifT hc2 ?_;cases h;exact (.p _)
 refine iL h fun h=>?_;refine iL h fun h=>?_;exact iB h
def Xg (N:Nat) (kind:Int) (rest:Int):Option ((List UInt8)×Int):=
 (J8 N kind).bind fun v1=>
 cond (!v1)
 (some ([],8))
 (cond (Q5 .lss rest 0)
 (some ([],2))
 (cond (Q5 .gtr rest 65531)
 (some ([],4))
 (cond (Q5 .leq (wrap .i64 (rest+2)) 255)
 ((Zy N (wrap .u64 (wrap .i64 (rest+2))) 1).bind fun v7=>
 (Zy N (wrap .u64 kind) 1).bind fun v9=>
 cond (Nat.ble (v7.length+v9.length) 4611686018427387904) (some ((v7++v9),0)) none)
 ((Zy N 1 1).bind fun v12=>
 (Zy N (wrap .u64 (wrap .i64 (rest+4))) 2).bind fun v14=>
 cond (Nat.ble (v12.length+v14.length) 4611686018427387904) ((Zy N (wrap .u64 kind) 1).bind fun v17=>
 cond (Nat.ble ((v12++v14).length+v17.length) 4611686018427387904) (some (((v12++v14)++v17),0)) none) none))))
theorem Jz {N} {kind} {rest} {r} (h:Xg N kind rest=some r):pU 197 [.int .i64 kind,.int .i64 rest] (.tuple [.str r.1,.int .i64 r.2]):=by
 refine Q3 Z32 ?_;unfold Xg at h;rw [cX] at h;refine cP h Q3x p1 fun v1 h=>?_;refine iL2 h fun h=>?_;refine iL2 h fun h=>?_;refine iL2 h fun h=>?_;apply iU h<;>intro h
 ·refine cP h Y0 p2 fun v7 h=>?_;refine cP h Y0 p2 fun v9 h=>?_;refine kU h fun h=>?_;obtain rfl:=Qv h;exact u2
 refine cP h Y0 p2 fun v12 h=>?_;refine cP h Y0 p2 fun v14 h=>?_;refine kU h fun h=>?_;refine cP h Y0 p2 fun v17 h=>?_;refine kU h fun h=>?_;obtain rfl:=Qv h;exact u2
def Q0a (N:Nat) (kind:Int):Option Bool:=
 (J8 N kind).bind fun v1=>
 cond v1
 (some (Q5 .neq kind 254))
 (some false)
theorem Q7q {N} {kind} {r} (h:Q0a N kind=some r):pU 217 [.int .i64 kind] (.bool r):=by
 refine Q3 Z4b ?_;unfold Q0a at h;rw [cX] at h;refine cP h Q3x p1 fun v1 h=>?_;exact iB h
def Q0c (_N:Nat) (kind:Int):Option (Qp):=
 cond (Q5 .eql kind 4)
 (some (⟨false,0,false,true,true,0⟩:Qp))
 (cond (Q5 .eql kind 7)
 (some (⟨false,1,true,false,false,0⟩:Qp))
 (cond (Q5 .eql kind 26)
 (some (⟨false,1,true,false,false,0⟩:Qp))
 (cond (Q5 .eql kind 19)
 (some (⟨false,1,false,false,false,0⟩:Qp))
 (cond (Q5 .eql kind 12)
 (some (⟨true,1,true,false,false,1⟩:Qp))
 (cond (Q5 .eql kind 18)
 (some (⟨true,1,false,false,false,1⟩:Qp))
 (cond (Q5 .eql kind 20)
 (some (⟨false,0,false,false,false,1⟩:Qp))
 (some (⟨false,0,false,false,false,0⟩:Qp))))))))
theorem Qa7 {N} {kind} {r} (h:Q0c N kind=some r):pU 249 [.int .i64 kind] (.agg (Qp.cells r)):=by
 refine Q3 Z2e ?_;unfold Q0c at h;rw [cX] at h;apply iU h<;>intro h
 ·show Frz _ _ _ _;obtain rfl:=Qv h;exact (Frz.agg' (.cons (.p _) p5))
 refine ifO h (fun hc2 h=>?_) (fun hc2 h=>?_)
 ·refine ifT hc2 ?_;show Frz _ _ _ _;obtain rfl:=Qv h;exact (Frz.agg' (.cons (.p _) p5))
 apply iU h<;>intro h
 ·show Frz _ _ _ _;obtain rfl:=Qv h;exact (Frz.agg' (.cons (.p _) p5))
 apply iU h<;>intro h
 ·show Frz _ _ _ _;obtain rfl:=Qv h;exact (Frz.agg' (.cons (.p _) p5))
 apply iU h<;>intro h
 ·show Frz _ _ _ _;obtain rfl:=Qv h;exact (Frz.agg' (.cons (.p _) p5))
 apply iU h<;>intro h
 ·show Frz _ _ _ _;obtain rfl:=Qv h;exact (Frz.agg' (.cons (.p _) p5))
 apply iU h<;>intro h
 ·show Frz _ _ _ _;obtain rfl:=Qv h;exact (Frz.agg' (.cons (.p _) p5))
 show Frz _ _ _ _;obtain rfl:=Qv h;exact (Frz.agg' (.cons (.p _) p5))
def Jo (_N:Nat) (c15:Bool) (c18:Int) (c21:Bool) (c24:Bool) (c27:Bool) (c30:Int):Option Bool:=
 some (((c15:Bool) == false)&&(((c18:Int) == 0)&&(((c21:Bool) == false)&&(((c24:Bool) == false)&&(((c27:Bool) == false)&&(((c30:Int) == 0)&&true))))))
def Jl (N:Nat) (f:Qp) (v12:Qp) (c15:Bool) (c18:Int) (c21:Bool) (c24:Bool) (c27:Bool):Option Bool:=
 cond (Q5 .eql v12.Type' 1)
 (Jo N c15 c18 c21 c24 c27 0)
 (Jo N c15 c18 c21 c24 c27 f.Type')
def Jn (N:Nat) (f:Qp) (v12:Qp) (c15:Bool) (c18:Int) (c21:Bool) (c24:Bool):Option Bool:=
 cond v12.Clean
 (Jl N f v12 c15 c18 c21 c24 false)
 (Jl N f v12 c15 c18 c21 c24 f.Clean)
def Jg (N:Nat) (f:Qp) (v12:Qp) (c15:Bool) (c18:Int) (c21:Bool):Option Bool:=
 cond v12.Will
 (Jn N f v12 c15 c18 c21 false)
 (Jn N f v12 c15 c18 c21 f.Will)
def Jk (N:Nat) (f:Qp) (v12:Qp) (c15:Bool) (c18:Int):Option Bool:=
 cond v12.Retain
 (Jg N f v12 c15 c18 false)
 (Jg N f v12 c15 c18 f.Retain)
def Jr (N:Nat) (f:Qp) (v12:Qp) (c15:Bool):Option Bool:=
 cond (Q5 .eql v12.QoS 1)
 (Jk N f v12 c15 0)
 (Jk N f v12 c15 f.QoS)
def Ud (N:Nat) (kind:Int) (f:Qp) (s9:Bool):Option Bool:=
 cond s9
 (some false)
 ((Q0c N kind).bind fun v12=>
 cond v12.Dup
 (Jr N f v12 false)
 (Jr N f v12 f.Dup))
def Gt (N:Nat) (kind:Int) (f:Qp):Option Bool:=
 (U3 N f).bind fun v1=>
 cond (Q5 .neq v1.2 0)
 (some false)
 (cond (Q5 .lss f.QoS 0)
 (Ud N kind f (Q5 .neq kind 12))
 (Ud N kind f false))
theorem Qcc {N} {kind} {f} {r} (h:Gt N kind f=some r):pU 218 [.int .i64 kind,.agg (Qp.cells f)] (.bool r):=by
 refine Q3 Zaa ?_;unfold Gt at h;rw [cX] at h;refine cP h Q4w (.cons (Frz.agg' (.cons (.p _) p5)) .nil) fun v1 h=>?_;refine iL h fun h=>?_;refine Qao ?_;refine jrH (r:=r) (σ:=Bool) (fun s9=>(iI kind :: .any :: .any :: .ptr 0 0::a16 (.any :: .p (.bool s9)::a16 (a8 (.any :: []))):List AV)) (fun s9=>Ud N kind f s9) ?_ ?_
 ·apply iU h<;>intro h
  ·show Exists _;exact ⟨((Qm1 .neq kind 12)),h,(fun i=>i),Yr⟩
  show Exists _;exact ⟨(false),h,(fun i=>i),Yr⟩
 rintro s9 h
 unfold Ud at h;refine iL h fun h=>?_;refine cP h Qa7 p1 fun v12 h=>?_;refine jrA (r:=r) (σ:=Bool) (fun _=>(a2 (.any :: .ptr 0 0::a2 (.any :: .ptr 1 0::a16 (a16 (a4 (a2 (.any :: [])))))):List AV)) (fun c15=>(.cells (.p (.bool c15)::iI f.QoS :: .p (.bool f.Retain) :: .p (.bool f.Will) :: .p (.bool f.Clean)::iI f.Type' :: []) :: .cells (Q6d v12 ([])) :: []:List AObj)) (fun c15=>Jr N f v12 c15) ?_ ?_
 ·apply iU h<;>intro h
  ·show Exists _;exact ⟨(false),h,(fun i=>i),Yr⟩
  show Exists _;exact ⟨(f.Dup),h,(fun i=>i),Yr⟩
 rintro c15 h
 unfold Jr at h;rw [cX] at h;refine jrA (r:=r) (σ:=Int) (fun _=>(a2 (.any :: .ptr 0 0::a2 (.any :: .ptr 1 0::a16 (a16 (a4 (a2 (.any :: [])))))):List AV)) (fun c18=>(.cells (.p (.bool c15)::iI c18 :: .p (.bool f.Retain) :: .p (.bool f.Will) :: .p (.bool f.Clean)::iI f.Type' :: []) :: .cells (Q6d v12 ([])) :: []:List AObj)) (fun c18=>Jk N f v12 c15 c18) ?_ ?_
 ·apply iU h<;>intro h
  ·show Exists _;exact ⟨(0),h,(fun i=>i),Yr⟩
  show Exists _;exact ⟨(f.QoS),h,(fun i=>i),Yr⟩
 rintro c18 h
 unfold Jk at h;refine jrA (r:=r) (σ:=Bool) (fun _=>(a2 (.any :: .ptr 0 0::a2 (.any :: .ptr 1 0::a16 (a16 (a4 (a2 (.any :: [])))))):List AV)) (fun c21=>(.cells (.p (.bool c15)::iI c18 :: .p (.bool c21) :: .p (.bool f.Will) :: .p (.bool f.Clean)::iI f.Type' :: []) :: .cells (Q6d v12 ([])) :: []:List AObj)) (fun c21=>Jg N f v12 c15 c18 c21) ?_ ?_
 ·apply iU h<;>intro h
  ·show Exists _;exact ⟨(false),h,(fun i=>i),Yr⟩
  show Exists _;exact ⟨(f.Retain),h,(fun i=>i),Yr⟩
 rintro c21 h
 unfold Jg at h;refine jrA (r:=r) (σ:=Bool) (fun _=>(a2 (.any :: .ptr 0 0::a2 (.any :: .ptr 1 0::a16 (a16 (a4 (a2 (.any :: [])))))):List AV)) (fun c24=>(.cells (.p (.bool c15)::iI c18 :: .p (.bool c21) :: .p (.bool c24) :: .p (.bool f.Clean)::iI f.Type' :: []) :: .cells (Q6d v12 ([])) :: []:List AObj)) (fun c24=>Jn N f v12 c15 c18 c21 c24) ?_ ?_
 ·apply iU h<;>intro h
  ·show Exists _;exact ⟨(false),h,(fun i=>i),Yr⟩
  show Exists _;exact ⟨(f.Will),h,(fun i=>i),Yr⟩
 rintro c24 h
 unfold Jn at h;refine jrA (r:=r) (σ:=Bool) (fun _=>(a2 (.any :: .ptr 0 0::a2 (.any :: .ptr 1 0::a16 (a16 (a4 (a2 (.any :: [])))))):List AV)) (fun c27=>(.cells (.p (.bool c15)::iI c18 :: .p (.bool c21) :: .p (.bool c24) :: .p (.bool c27)::iI f.Type' :: []) :: .cells (Q6d v12 ([])) :: []:List AObj)) (fun c27=>Jl N f v12 c15 c18 c21 c24 c27) ?_ ?_
 ·apply iU h<;>intro h
  ·show Exists _;exact ⟨(false),h,(fun i=>i),Yr⟩
  show Exists _;exact ⟨(f.Clean),h,(fun i=>i),Yr⟩
 rintro c27 h
 unfold Jl at h;rw [cX] at h;refine jrA (r:=r) (σ:=Int) (fun _=>(a2 (.any :: .ptr 0 0::a16 (a16 (a8 (a2 (.any :: []))))):List AV)) (fun c30=>(.cells (.p (.bool c15)::iI c18 :: .p (.bool c21) :: .p (.bool c24) :: .p (.bool c27)::iI c30 :: []) :: .cells (Q6d v12 ([])) :: []:List AObj)) (fun c30=>Jo N c15 c18 c21 c24 c27 c30) ?_ ?_
 ·apply iU h<;>intro h
  ·show Exists _;exact ⟨(0),h,(fun i=>i),Yr⟩
  show Exists _;exact ⟨(f.Type'),h,(fun i=>i),Yr⟩
 rintro c30 h
 unfold Jo at h;cases h;exact (.p _)
def Q33 (_N:Nat) (kind:Int):Option Bool:=
 cond (Q5 .eql kind 7)
 (some true)
 (some (Q5 .eql kind 26))
theorem Qbn {N} {kind} {r} (h:Q33 N kind=some r):pU 219 [.int .i64 kind] (.bool r):=by
 refine Q3 Z75 ?_;unfold Q33 at h;rw [cX] at h;exact iB h
def Uz (_N:Nat) (m:Wh):Option Bool:=
 cond (Q5 .eql m.Type' 10)
 (some (Q5 .neq m.MsgID 0))
 (cond (Q5 .eql m.Type' 14)
 (some (Q5 .neq m.MsgID 0))
 (cond (Q5 .eql m.Type' 15)
 (some (Q5 .neq m.MsgID 0))
 (cond (Q5 .eql m.Type' 16)
 (some (Q5 .neq m.MsgID 0))
 (cond (Q5 .eql m.Type' 21)
 (some (Q5 .neq m.MsgID 0))
 (cond (Q5 .eql m.Type' 18)
 (some (Q5 .neq m.MsgID 0))
 (cond (Q5 .eql m.Type' 20)
 (some (Q5 .neq m.MsgID 0))
 (cond (Q5 .eql m.Type' 12)
 (some ((Q5 .neq m.MsgID 0) == (Q5 .gtr m.Flags.QoS 0)))
 (some true))))))))
theorem Q1m {N} {m} {r} (h:Uz N m=some r):pU 221 [.agg (Wh.cells m)] (.bool r):=by
 refine Q3 Zb4 ?_;unfold Uz at h;rw [cX] at h;refine ifO h (fun hc1 h=>?_) (fun hc1 h=>?_)
 ·refine ifT hc1 ?_;cases h;exact (.p _)
 refine ifO h (fun hc2 h=>?_) (fun hc2 h=>?_)
 ·refine ifT hc2 ?_;cases h;exact (.p _)
 refine ifO h (fun hc3 h=>?_) (fun hc3 h=>?_)
 ·refine ifT hc3 ?_;cases h;exact (.p _)
 refine ifO h (fun hc4 h=>?_) (fun hc4 h=>?_)
 ·refine ifT hc4 ?_;cases h;exact (.p _)
 refine ifO h (fun hc5 h=>?_) (fun hc5 h=>?_)
 ·refine ifT hc5 ?_;cases h;exact (.p _)
 refine ifO h (fun hc6 h=>?_) (fun hc6 h=>?_)
 ·refine ifT hc6 ?_;cases h;exact (.p _)
 refine iL h fun h=>?_;exact iB h
def Ws (N:Nat) (id:Int):Option ((List UInt8)×Bool):=
 cond (Q5 .lss id 0)
 (some ([],false))
 (cond (Q5 .gtr id 65535)
 (some ([],false))
 ((Zy N (wrap .u64 id) 2).bind fun v3=>
 (Yq N v3).bind fun v5=>
 cond (!v5)
 (some ([],false))
 (some (v3,true))))
theorem Q03 {N} {id} {r} (h:Ws N id=some r):pU 251 [.int .i64 id] (.tuple [.str r.1,.bool r.2]):=by
 refine Q3 Z4u ?_;unfold Ws at h;rw [cX] at h;refine iL2 h fun h=>?_;refine iL2 h fun h=>?_;refine cP h Y0 p2 fun v3 h=>?_;refine cP h Xi p1 fun v5 h=>?_;exact iB2 h
def Vg (N:Nat) (m:Wh):Option Int:=
 cond (Q5 .eql m.Type' 18)
 (cond (Q5 .eql m.Flags.Type' 0)
 (some 0)
 (cond (Q5 .eql m.Flags.Type' 2)
 ((Ws N m.TopicID).bind fun v4=>
 cond (!v4.2)
 (some 10)
 (some 0))
 (cond (Q5 .lss m.TopicID 1)
 (some 2)
 (cond (Q5 .gtr m.TopicID 65534)
 (some 2)
 (some 0)))))
 (cond (Q5 .eql m.Type' 20)
 (cond (Q5 .eql m.Flags.Type' 0)
 (some 0)
 (cond (Q5 .eql m.Flags.Type' 2)
 ((Ws N m.TopicID).bind fun v12=>
 cond (!v12.2)
 (some 10)
 (some 0))
 (cond (Q5 .lss m.TopicID 1)
 (some 2)
 (cond (Q5 .gtr m.TopicID 65534)
 (some 2)
 (some 0)))))
 (cond (Q5 .eql m.Type' 12)
 (cond (Q5 .eql m.Flags.Type' 2)
 ((Ws N m.TopicID).bind fun v19=>
 cond (!v19.2)
 (some 10)
 (some 0))
 (cond (Q5 .lss m.TopicID 1)
 (some 2)
 (cond (Q5 .gtr m.TopicID 65534)
 (some 2)
 (some 0))))
 (cond (Q5 .eql m.Type' 10)
 (cond (Q5 .eql m.Flags.Type' 2)
 ((Ws N m.TopicID).bind fun v26=>
 cond (!v26.2)
 (some 10)
 (some 0))
 (cond (Q5 .lss m.TopicID 1)
 (some 2)
 (cond (Q5 .gtr m.TopicID 65534)
 (some 2)
 (some 0))))
 (some 0))))
theorem Q05 {N} {m} {r} (h:Vg N m=some r):pU 222 [.agg (Wh.cells m)] (.int .i64 r):=by
 refine Q3 Zb0 ?_;unfold Vg at h;rw [cX] at h;refine ifO h (fun hc1 h=>?_) (fun hc1 h=>?_)
 ·refine ifT hc1 ?_;refine iL h fun h=>?_;apply iU h<;>intro h
  ·refine cP h Q03 p1 fun v4 h=>?_;exact iB h
  refine iL h fun h=>?_;exact iB h
 apply iU h<;>intro h
 ·refine iL h fun h=>?_;apply iU h<;>intro h
  ·refine cP h Q03 p1 fun v12 h=>?_;exact iB h
  refine iL h fun h=>?_;exact iB h
 refine ifO h (fun hc17 h=>?_) (fun hc17 h=>?_)
 ·refine ifT hc17 ?_;apply iU h<;>intro h
  ·refine cP h Q03 p1 fun v19 h=>?_;exact iB h
  refine iL h fun h=>?_;exact iB h
 refine iR h fun h=>?_;apply iU h<;>intro h
 ·refine cP h Q03 p1 fun v26 h=>?_;exact iB h
 refine iL h fun h=>?_;exact iB h
def Jw (N:Nat) (m:Wh):Option Int:=
 cond (Q5 .eql m.Type' 4)
 (cond (Q0m .neq m.Name [])
 (cond (Q5 .leq (m.Name.length:Int) 23)
 ((Xh N m.Name).bind fun v4=>
 cond v4
 (some 0)
 (some 6))
 (some 6))
 (some 6))
 (cond (Q5 .eql m.Type' 22)
 (cond (Q5 .leq (m.Name.length:Int) 23)
 ((Xh N m.Name).bind fun v9=>
 cond v9
 (some 0)
 (some 6))
 (some 6))
 (cond (Q5 .eql m.Type' 10)
 ((Yq N m.Name).bind fun v13=>
 cond v13
 (some 0)
 (some 10))
 (cond (Q5 .eql m.Type' 7)
 (cond (Q0m .eql m.Name [])
 (some 0)
 ((Yq N m.Name).bind fun v18=>
 cond v18
 (some 0)
 (some 10)))
 (cond (Q5 .eql m.Type' 26)
 (cond (Q0m .eql m.Name [])
 (some 0)
 ((Yq N m.Name).bind fun v23=>
 cond v23
 (some 0)
 (some 10)))
 (cond (Q5 .eql m.Type' 18)
 (cond (Q5 .neq m.Flags.Type' 0)
 (some 0)
 (none))
 (cond (Q5 .eql m.Type' 20)
 (cond (Q5 .neq m.Flags.Type' 0)
 (some 0)
 (none))
 (cond (Q5 .eql m.Type' 2)
 (cond (Q5 .leq (m.Name.length:Int) 16)
 (some 0)
 (some 2))
 (some 0))))))))
theorem Q2q {N} {m} {r} (h:Jw N m=some r):pU 223 [.agg (Wh.cells m)] (.int .i64 r):=by
 refine Q3 Z97 ?_;unfold Jw at h;rw [cX,cY] at h;apply iU h<;>intro h
 ·refine iR h fun h=>?_;refine iR h fun h=>?_;refine cP h Xu p1 fun v4 h=>?_;exact iB h
 apply iU h<;>intro h
 ·refine iR h fun h=>?_;refine cP h Xu p1 fun v9 h=>?_;exact iB h
 apply iU h<;>intro h
 ·refine cP h Xi p1 fun v13 h=>?_;exact iB h
 refine ifO h (fun hc16 h=>?_) (fun hc16 h=>?_)
 ·refine ifT hc16 ?_;refine iL h fun h=>?_;refine cP h Xi p1 fun v18 h=>?_;exact iB h
 apply iU h<;>intro h
 ·refine iL h fun h=>?_;refine cP h Xi p1 fun v23 h=>?_;exact iB h
 refine ifO h (fun hc26 h=>?_) (fun hc26 h=>?_)
 ·refine ifT hc26 ?_;refine iL h fun h=>?_
  first | (cases h;done) | (simp [Vt] at h;done)
 apply iU h<;>intro h
 ·refine iL h fun h=>?_
  first | (cases h;done) | (simp [Vt] at h;done)
 refine iR h fun h=>?_;exact iB h
def Ur (N:Nat) (m:Wh):Option Int:=
 (Q0a N m.Type').bind fun v1=>
 cond (!v1)
 (some 8)
 ((Gt N m.Type' m.Flags).bind fun v4=>
 cond (!v4)
 (some 7)
 ((Q33 N m.Type').bind fun v7=>
 cond v7
 (cond (Q0m .eql m.Name [])
 (cond (!(((m.Flags.Dup:Bool) == false)&&(((m.Flags.QoS:Int) == 0)&&(((m.Flags.Retain:Bool) == false)&&(((m.Flags.Will:Bool) == false)&&(((m.Flags.Clean:Bool) == false)&&(((m.Flags.Type':Int) == 0)&&true)))))))
 (some 7)
 ((Qy N (⟨2,m,[],false⟩:Qa)).bind fun v12=>
 cond v12.2.bad
 (some 2)
 (cond (!(((v12.2.m.Type':Int) == m.Type')&&(((v12.2.m.Flags.Dup:Bool) == m.Flags.Dup)&&(((v12.2.m.Flags.QoS:Int) == m.Flags.QoS)&&(((v12.2.m.Flags.Retain:Bool) == m.Flags.Retain)&&(((v12.2.m.Flags.Will:Bool) == m.Flags.Will)&&(((v12.2.m.Flags.Clean:Bool) == m.Flags.Clean)&&(((v12.2.m.Flags.Type':Int) == m.Flags.Type')&&(((v12.2.m.Gateway:Int) == 0)&&(((v12.2.m.Radius:Int) == 0)&&(((v12.2.m.Time:Int) == 0)&&(((v12.2.m.Timed:Bool) == false)&&(((v12.2.m.TopicID:Int) == 0)&&(((v12.2.m.MsgID:Int) == 0)&&(((v12.2.m.Code:Int) == 0)&&(((v12.2.m.Name:List UInt8) == [])&&(((v12.2.m.Data:List UInt8) == [])&&true)))))))))))))))))
 (some 2)
 ((Uz N m).bind fun v16=>
 cond (!v16)
 (some 2)
 ((Vg N m).bind fun v19=>
 cond (Q5 .neq v19 0)
 (some v19)
 ((Jw N m).bind fun v22=>
 cond (Q5 .neq v22 0)
 (some v22)
 ((V9 N m).bind fun v25=>
 (Xg N m.Type' (v25.length:Int)).bind fun v27=>
 some v27.2)))))))
 ((Qy N (⟨2,m,[],false⟩:Qa)).bind fun v29=>
 cond v29.2.bad
 (some 2)
 (cond (!(((v29.2.m.Type':Int) == m.Type')&&(((v29.2.m.Flags.Dup:Bool) == m.Flags.Dup)&&(((v29.2.m.Flags.QoS:Int) == m.Flags.QoS)&&(((v29.2.m.Flags.Retain:Bool) == m.Flags.Retain)&&(((v29.2.m.Flags.Will:Bool) == m.Flags.Will)&&(((v29.2.m.Flags.Clean:Bool) == m.Flags.Clean)&&(((v29.2.m.Flags.Type':Int) == m.Flags.Type')&&(((v29.2.m.Gateway:Int) == 0)&&(((v29.2.m.Radius:Int) == 0)&&(((v29.2.m.Time:Int) == 0)&&(((v29.2.m.Timed:Bool) == false)&&(((v29.2.m.TopicID:Int) == 0)&&(((v29.2.m.MsgID:Int) == 0)&&(((v29.2.m.Code:Int) == 0)&&(((v29.2.m.Name:List UInt8) == [])&&(((v29.2.m.Data:List UInt8) == [])&&true)))))))))))))))))
 (some 2)
 ((Uz N m).bind fun v33=>
 cond (!v33)
 (some 2)
 ((Vg N m).bind fun v36=>
 cond (Q5 .neq v36 0)
 (some v36)
 ((Jw N m).bind fun v39=>
 cond (Q5 .neq v39 0)
 (some v39)
 ((V9 N m).bind fun v42=>
 (Xg N m.Type' (v42.length:Int)).bind fun v44=>
 some v44.2)))))))
 ((Qy N (⟨2,m,[],false⟩:Qa)).bind fun v46=>
 cond v46.2.bad
 (some 2)
 (cond (!(((v46.2.m.Type':Int) == m.Type')&&(((v46.2.m.Flags.Dup:Bool) == m.Flags.Dup)&&(((v46.2.m.Flags.QoS:Int) == m.Flags.QoS)&&(((v46.2.m.Flags.Retain:Bool) == m.Flags.Retain)&&(((v46.2.m.Flags.Will:Bool) == m.Flags.Will)&&(((v46.2.m.Flags.Clean:Bool) == m.Flags.Clean)&&(((v46.2.m.Flags.Type':Int) == m.Flags.Type')&&(((v46.2.m.Gateway:Int) == 0)&&(((v46.2.m.Radius:Int) == 0)&&(((v46.2.m.Time:Int) == 0)&&(((v46.2.m.Timed:Bool) == false)&&(((v46.2.m.TopicID:Int) == 0)&&(((v46.2.m.MsgID:Int) == 0)&&(((v46.2.m.Code:Int) == 0)&&(((v46.2.m.Name:List UInt8) == [])&&(((v46.2.m.Data:List UInt8) == [])&&true)))))))))))))))))
 (some 2)
 ((Uz N m).bind fun v50=>
 cond (!v50)
 (some 2)
 ((Vg N m).bind fun v53=>
 cond (Q5 .neq v53 0)
 (some v53)
 ((Jw N m).bind fun v56=>
 cond (Q5 .neq v56 0)
 (some v56)
 ((V9 N m).bind fun v59=>
 (Xg N m.Type' (v59.length:Int)).bind fun v61=>
 some v61.2))))))))
theorem Qah {N} {m} {r} (h:Ur N m=some r):pU 195 [.agg (Wh.cells m)] (.int .i64 r):=by
 refine Q3 Zaz ?_;unfold Ur at h;rw [cX,cY] at h;refine cP h Q7q p1 fun v1 h=>?_;refine iL h fun h=>?_;refine cP h Qcc (.cons (.p _) (.cons (Frz.agg' (.cons (.p _) p5)) .nil)) fun v4 h=>?_;refine iL h fun h=>?_;refine cP h Qbn p1 fun v7 h=>?_;apply iU h<;>intro h
 ·apply iU h<;>intro h
  ·refine iL h fun h=>?_;refine cG h Wu fun v12 h=>?_;refine ⟨rho [1,3],(.cells (Qe6 m ([])) :: .cells (Q4v v12.2 2) :: .cells (W8 (cI .u8) v12.2.out) :: []),.tuple [],⟨(rE rfl <| rN),(hC rfl (rE rfl <| rE rfl <| rE rfl <| rE rfl <| rE rfl <| rE rfl <| rE rfl <| rE rfl <| rE rfl <| rE rfl <| rE rfl <| rE rfl <| rE rfl <| rE rfl <| rE rfl <| rE rfl <| rE rfl <| rE rfl <| rS <| rE rfl <| rN) <| hV lb <| hN),rfl,rfl,(roE rfl <| roE (Uy _ _ _) <| roN),rfl,(fK rfl rfl <| fR 0 rfl rfl rfl rfl <| fO 2 rfl rfl rfl <| fN),rfl⟩,?_⟩;refine iL h fun h=>?_;refine iL h fun h=>?_;refine cP h Q1m (.cons (Frz.agg' (f8_ (f2_ (.cons (.p _) p5)))) .nil) fun v16 h=>?_;refine iL h fun h=>?_;refine cP h Q05 (.cons (Frz.agg' (f8_ (f2_ (.cons (.p _) p5)))) .nil) fun v19 h=>?_;refine iL h fun h=>?_;refine cP h Q2q (.cons (Frz.agg' (f8_ (f2_ (.cons (.p _) p5)))) .nil) fun v22 h=>?_;refine iL h fun h=>?_;refine Qk ?_;refine cD h Q04 (.cons (Frz.agg' (f8_ (f2_ (.cons (.p _) p5)))) .nil) fun v25 h=>?_;refine cD h Jz p2 fun v27 h=>?_;cases h;exact (.p _)
  refine cG h Wu fun v29 h=>?_;refine ⟨rho [1,3],(.cells (Qe6 m ([])) :: .cells (Q4v v29.2 2) :: .cells (W8 (cI .u8) v29.2.out) :: []),.tuple [],⟨(rE rfl <| rN),(hC rfl (rE rfl <| rE rfl <| rE rfl <| rE rfl <| rE rfl <| rE rfl <| rE rfl <| rE rfl <| rE rfl <| rE rfl <| rE rfl <| rE rfl <| rE rfl <| rE rfl <| rE rfl <| rE rfl <| rE rfl <| rE rfl <| rS <| rE rfl <| rN) <| hV lb <| hN),rfl,rfl,(roE rfl <| roE (Uy _ _ _) <| roN),rfl,(fK rfl rfl <| fR 0 rfl rfl rfl rfl <| fO 2 rfl rfl rfl <| fN),rfl⟩,?_⟩;refine iL h fun h=>?_;refine iL h fun h=>?_;refine cP h Q1m (.cons (Frz.agg' (f8_ (f2_ (.cons (.p _) p5)))) .nil) fun v33 h=>?_;refine iL h fun h=>?_;refine cP h Q05 (.cons (Frz.agg' (f8_ (f2_ (.cons (.p _) p5)))) .nil) fun v36 h=>?_;refine iL h fun h=>?_;refine cP h Q2q (.cons (Frz.agg' (f8_ (f2_ (.cons (.p _) p5)))) .nil) fun v39 h=>?_;refine iL h fun h=>?_;refine Qk ?_;refine cD h Q04 (.cons (Frz.agg' (f8_ (f2_ (.cons (.p _) p5)))) .nil) fun v42 h=>?_;refine cD h Jz p2 fun v44 h=>?_;cases h;exact (.p _)
 refine cG h Wu fun v46 h=>?_;refine ⟨rho [1,3],(.cells (Qe6 m ([])) :: .cells (Q4v v46.2 2) :: .cells (W8 (cI .u8) v46.2.out) :: []),.tuple [],⟨(rE rfl <| rN),(hC rfl (rE rfl <| rE rfl <| rE rfl <| rE rfl <| rE rfl <| rE rfl <| rE rfl <| rE rfl <| rE rfl <| rE rfl <| rE rfl <| rE rfl <| rE rfl <| rE rfl <| rE rfl <| rE rfl <| rE rfl <| rE rfl <| rS <| rE rfl <| rN) <| hV lb <| hN),rfl,rfl,(roE rfl <| roE (Uy _ _ _) <| roN),rfl,(fK rfl rfl <| fR 0 rfl rfl rfl rfl <| fO 2 rfl rfl rfl <| fN),rfl⟩,?_⟩;refine iL h fun h=>?_;refine iL h fun h=>?_;refine cP h Q1m (.cons (Frz.agg' (f8_ (f2_ (.cons (.p _) p5)))) .nil) fun v50 h=>?_;refine iL h fun h=>?_;refine cP h Q05 (.cons (Frz.agg' (f8_ (f2_ (.cons (.p _) p5)))) .nil) fun v53 h=>?_;refine iL h fun h=>?_;refine cP h Q2q (.cons (Frz.agg' (f8_ (f2_ (.cons (.p _) p5)))) .nil) fun v56 h=>?_;refine iL h fun h=>?_;refine Qk ?_;refine cD h Q04 (.cons (Frz.agg' (f8_ (f2_ (.cons (.p _) p5)))) .nil) fun v59 h=>?_;refine cD h Jz p2 fun v61 h=>?_;cases h;exact (.p _)
def Xw (N:Nat) (m:Wh):Option ((List UInt8)×Int):=
 (Ur N m).bind fun v1=>
 cond (Q5 .neq v1 0)
 (some ([],v1))
 ((V9 N m).bind fun v4=>
 (Xg N m.Type' (v4.length:Int)).bind fun v6=>
 cond (Q5 .neq v6.2 0)
 (some ([],v6.2))
 (cond (Nat.ble (v6.1.length+v4.length) 4611686018427387904) (some ((v6.1++v4),0)) none))
theorem Q4y {N} {m} {r} (h:Xw N m=some r):pU 157 [.agg (Wh.cells m)] (.tuple [.str r.1,.int .i64 r.2]):=by
 refine Q3 Zcs ?_;unfold Xw at h;rw [cX] at h;refine cP h Qah (.cons (Frz.agg' (f8_ (f2_ (.cons (.p _) p5)))) .nil) fun v1 h=>?_;refine iL2 h fun h=>?_;refine cP h Q04 (.cons (Frz.agg' (f8_ (f2_ (.cons (.p _) p5)))) .nil) fun v4 h=>?_;refine cP h Jz p2 fun v6 h=>?_;refine iL2 h fun h=>?_;refine kU h fun h=>?_;obtain rfl:=Qv h;exact u2
def Ul (N:Nat) (h_0:V0):Option (List UInt8):=
 (Zy N (wrap .u64 (wrap .i64 (3+(h_0.Node.length:Int)))) 1).bind fun v1=>
 (Zy N 254 1).bind fun v3=>
 cond (Nat.ble (v1.length+v3.length) 4611686018427387904) ((Zy N (wrap .u64 h_0.Radius) 1).bind fun v6=>
 cond (Nat.ble ((v1++v3).length+v6.length) 4611686018427387904) (cond (Nat.ble (((v1++v3)++v6).length+h_0.Node.length) 4611686018427387904) (some (((v1++v3)++v6)++h_0.Node)) none) none) none
theorem Q1z {N} {h_0} {r} (h:Ul N h_0=some r):pU 158 [.agg (V0.cells h_0)] (.str r):=by
 refine Q3 Z18 ?_;unfold Ul at h;refine Qk ?_;refine cD h Y0 p2 fun v1 h=>?_;refine cD h Y0 p2 fun v3 h=>?_;refine kU h fun h=>?_;refine cD h Y0 p2 fun v6 h=>?_;refine kU h fun h=>?_;refine kU h fun h=>?_;cases h;exact (.p _)
end
end
end Go.Av
