/- Part of the proof of CrossTexts: for every input the law returns true; no condition. -/
import Derived.Test.YtaokaobiihpkbaaGreatDoorLiftTy
import Derived.Test.YtaokaobiihpkbaaGreatDoorChks
import Derived.Test.YtaokaobiihpkbaaGreatDoorSeat1
import Derived.Test.YtaokaobiihpkbaaGreatDoorRound
import Derived.Test.YtaokaobiihpkbaaGreatDoorC16of
import Derived.Test.YtaokaobiihpkbaaGreatDoorAvAbb
import Derived.KernelRfl
import Derived.Test.YtaokaobiihpkbaaGreatDoorRegT
import Derived.Test.YtaokaobiihpkbaaGreatDoorRegS
import Derived.Test.YtaokaobiihpkbaaGreatDoorClosed5
set_option linter.all false
open Go.IntKind (wrap)
namespace Go.Av
noncomputable section
open Go.Proofs
set_option maxRecDepth 100000
set_option maxHeartbeats 4000000
attribute [local irreducible] Xk Qs Q7i Q68 Qph Qrf Qiq
section
abbrev pU:=Q7x Tryz.prog G1
abbrev gU:=GC Tryz.prog G1
def Q25 (_N:Nat):Option Bool:=some true
theorem Q4z {N r} (h:Q25 N=some r):pU 6 [] (.bool r):=by cases h;exact Qhq Qfo (N:=4000) (d:=60) (by kernel_rfl)
def Yc (N:Nat) (l:List Qd):Nat→Int→Option Bool
 | 0,_=>none
 | n+1,i17=>
  cond (Q5 .lss i17 ((Q8 Qd.cells l).length:Int))
  ((idx l i17).bind fun y19=>
  cond (Q5 .gtr (y19.Client.length:Int) 100)
  (some false)
  ((idx l i17).bind fun y22=>
  cond (Q5 .gtr (y22.Name.length:Int) 200)
  (some false)
  (Yc N l n (wrap .i64 (i17+1)))))
  (some (Q5 .leq ((Q8 Qd.cells l).length:Int) 20))
def Ub (N:Nat) (l:List Qd):Option Bool:=
 Yc N l N 0
theorem Q4h {N} {l} {r} (h:Ub N l=some r):pU 7 [.slice 3 (Q8 Qd.cells l)] (.bool r):=by
 refine Q3 k7 ?_;unfold Ub at h;refine lpH (τ:=Int) (fun i17=>(.p (.slice 3 (Q8 Qd.cells l)) :: .any :: .any::iI i17::a16 (a8 (.any :: [])):List AV)) (fun n0 i17=>Yc N l n0 i17) (0) h fun n0 i17 h=>?_
 first | rw [Yc] at h | simp only [Yc] at h
 rw [cX] at h;refine iR h fun h=>?_;refine xR h fun y19 h=>?_;refine iL h fun h=>?_;refine xR h fun y22 h=>?_;refine iL h fun h=>?_;show Exists _;exact ⟨(n0,(wrap .i64 (i17+1))),h,Lg _,(fun i=>i),Yq⟩
def Zz (N:Nat) (l:List Z8):Nat→Int→Option Bool
 | 0,_=>none
 | n+1,i17=>
  cond (Q5 .lss i17 ((Q8 Z8.cells l).length:Int))
  ((idx l i17).bind fun y19=>
  cond (Q5 .gtr (y19.Text.length:Int) 300)
  (some false)
  ((idx l i17).bind fun y22=>
  cond (Q5 .gtr (y22.Value.length:Int) 300)
  (some false)
  (Zz N l n (wrap .i64 (i17+1)))))
  (some (Q5 .leq ((Q8 Z8.cells l).length:Int) 30))
def Za (N:Nat) (l:List Z8):Option Bool:=
 Zz N l N 0
theorem X9 {N} {l} {r} (h:Za N l=some r):pU 19 [.slice 4 (Q8 Z8.cells l)] (.bool r):=by
 refine Q3 k19 ?_;unfold Za at h;refine lpH (τ:=Int) (fun i17=>(.p (.slice 4 (Q8 Z8.cells l)) :: .any :: .any::iI i17::a16 (a8 (.any :: [])):List AV)) (fun n0 i17=>Zz N l n0 i17) (0) h fun n0 i17 h=>?_
 first | rw [Zz] at h | simp only [Zz] at h
 rw [cX] at h;refine iR h fun h=>?_;refine xR h fun y19 h=>?_;refine iL h fun h=>?_;refine xR h fun y22 h=>?_;refine iL h fun h=>?_;show Exists _;exact ⟨(n0,(wrap .i64 (i17+1))),h,Lg _,(fun i=>i),Yq⟩
def Zv (N:Nat) (p:Qp):Nat→Int→Option Bool
 | 0,_=>none
 | n+1,i11=>
  cond (Q5 .lss i11 ((Q8 Qx.cells p.Filters).length:Int))
  (cond (Q5 .lss i11 31)
  ((idx p.Filters i11).bind fun y14=>
  cond (Q5 .gtr (y14.Topic.length:Int) 2000)
  (some false)
  (Zv N p n (wrap .i64 (i11+1))))
  (cond (Q5 .leq (p.Topic.length:Int) 2000)
  (cond (Q5 .leq (p.Payload.length:Int) 2000)
  (cond (Q5 .leq (p.Client.length:Int) 2000)
  (cond (Q5 .leq (p.User.length:Int) 2000)
  (cond (Q5 .leq (p.Pass.length:Int) 2000)
  (cond (Q5 .leq (p.Will.Topic.length:Int) 2000)
  (cond (Q5 .leq (p.Will.Payload.length:Int) 2000)
  (cond (Q5 .leq ((Q8 (cI .i64) p.Codes).length:Int) 30)
  (cond (Q5 .leq ((Q8 Qx.cells p.Filters).length:Int) 30)
  ((Za N p.Props).bind fun v26=>
  cond v26
  ((Za N p.Will.Props).bind fun v29=>
  some v29)
  (some false))
  (some false))
  (some false))
  (some false))
  (some false))
  (some false))
  (some false))
  (some false))
  (some false))
  (some false)))
  (cond (Q5 .leq (p.Topic.length:Int) 2000)
  (cond (Q5 .leq (p.Payload.length:Int) 2000)
  (cond (Q5 .leq (p.Client.length:Int) 2000)
  (cond (Q5 .leq (p.User.length:Int) 2000)
  (cond (Q5 .leq (p.Pass.length:Int) 2000)
  (cond (Q5 .leq (p.Will.Topic.length:Int) 2000)
  (cond (Q5 .leq (p.Will.Payload.length:Int) 2000)
  (cond (Q5 .leq ((Q8 (cI .i64) p.Codes).length:Int) 30)
  (cond (Q5 .leq ((Q8 Qx.cells p.Filters).length:Int) 30)
  ((Za N p.Props).bind fun v40=>
  cond v40
  ((Za N p.Will.Props).bind fun v43=>
  some v43)
  (some false))
  (some false))
  (some false))
  (some false))
  (some false))
  (some false))
  (some false))
  (some false))
  (some false))
  (some false))
def Ws (N:Nat) (p:Qp):Option Bool:=
 Zv N p N 0
theorem Q2u {N} {p} {r} (h:Ws N p=some r):pU 20 [.agg (Qp.cells p)] (.bool r):=by
 refine Q3 k20 ?_;unfold Ws at h;refine lpH (τ:=Int) (fun i11=>(.any :: .ptr 0 0 :: .any::iI i11::a16 (a16 (a16 (a16 (a16 (a4 ([])))))):List AV)) (fun n0 i11=>Zv N p n0 i11) (0) h fun n0 i11 h=>?_
 first | rw [Zv] at h | simp only [Zv] at h
 rw [cX] at h;apply iU h<;>intro h
 ·apply iU h<;>intro h
  ·refine xR h fun y14 h=>?_;refine iL h fun h=>?_;show Exists _;exact ⟨(n0,(wrap .i64 (i11+1))),h,Lg _,(fun i=>i),Yq⟩
  refine iR h fun h=>?_;refine iR h fun h=>?_;refine iR h fun h=>?_;refine iR h fun h=>?_;refine iR h fun h=>?_;refine iR h fun h=>?_;refine iR h fun h=>?_;refine iR h fun h=>?_;refine iR h fun h=>?_;refine cP h X9 p1 fun v26 h=>?_;refine iR h fun h=>?_;refine cP h X9 p1 fun v29 h=>?_;cases h;exact (.p _)
 refine iR h fun h=>?_;refine iR h fun h=>?_;refine iR h fun h=>?_;refine iR h fun h=>?_;refine iR h fun h=>?_;refine iR h fun h=>?_;refine iR h fun h=>?_;refine iR h fun h=>?_;refine iR h fun h=>?_;refine cP h X9 p1 fun v40 h=>?_;refine iR h fun h=>?_;refine cP h X9 p1 fun v43 h=>?_;cases h;exact (.p _)
def Jl (_N:Nat) (m:Vi):Option Bool:=
 cond (Q5 .leq (m.Name.length:Int) 70000)
 (some (Q5 .leq (m.Data.length:Int) 70000))
 (some false)
theorem Q42 {N} {m} {r} (h:Jl N m=some r):pU 43 [.agg (Vi.cells m)] (.bool r):=by
 refine Q3 k43 ?_;unfold Jl at h;rw [cX] at h;exact iB h
def Zj (N:Nat) (d:Qm):Nat→Int→Option Bool
 | 0,_=>none
 | n+1,i14=>
  cond (Q5 .lss i14 ((Q8 Wz.cells d.Hops).length:Int))
  ((idx d.Hops i14).bind fun y16=>
  cond (Q5 .gtr (y16.Node.length:Int) 300)
  (some false)
  (Zj N d n (wrap .i64 (i14+1))))
  (some true)
def W4 (N:Nat) (d:Qm):Option Bool:=
 cond (Q5 .gtr ((Q8 Wz.cells d.Hops).length:Int) 8)
 (some false)
 ((Jl N d.Msg).bind fun v2=>
 cond (!v2)
 (some false)
 (Zj N d N 0))
theorem Q2b {N} {d} {r} (h:W4 N d=some r):pU 21 [.agg (Qm.cells d)] (.bool r):=by
 refine Q3 k21 ?_;unfold W4 at h;rw [cX] at h;refine iL h fun h=>?_;refine cP h Q42 (.cons (Ar (f8_ (f2_ (.cons (.p _) p5)))) .nil) fun v2 h=>?_;refine iL h fun h=>?_;refine lpH (τ:=Int) (fun i14=>(.any :: .ptr 0 0 :: .any::iI i14::a16 (a8 (.any :: [])):List AV)) (fun n0 i14=>Zj N d n0 i14) (0) h fun n0 i14 h=>?_
 first | rw [Zj] at h | simp only [Zj] at h
 rw [cX] at h;refine iR h fun h=>?_;refine xR h fun y16 h=>?_;refine iL h fun h=>?_;show Exists _;exact ⟨(n0,(wrap .i64 (i14+1))),h,Lg _,(fun i=>i),Yq⟩
def Y1 (rz1:Q0→Int→Int→Option Int) (N:Nat) (v:Q0) (deep:Int) (most:Int):Nat→Int→Int→Option Int
 | 0,_,_=>none
 | n+1,n18,i19=>
  cond (Q5 .lss i19 ((Q0.rows v.Items).length:Int))
  (cond (Q5 .leq n18 most)
  ((idx v.Items i19).bind fun y22=>
  (rz1 y22 (wrap .i64 (deep - 1)) (wrap .i64 (most - n18))).bind fun v24=>
  Y1 rz1 N v deep most n (wrap .i64 (n18+v24)) (wrap .i64 (i19+1)))
  (some n18))
  (some n18)
def Vu (rz1:Q0→Int→Int→Option Int) (N:Nat) (v:Q0) (deep:Int) (most:Int):Option Int:=
 cond (Q5 .lss deep 0)
 (some (wrap .i64 (most+1)))
 (cond (Q5 .gtr ((Q0.rows v.Items).length:Int) most)
 (some (wrap .i64 (most+1)))
 (cond (Q5 .gtr (v.Text.length:Int) 400)
 (some (wrap .i64 (most+1)))
 (Y1 rz1 N v deep most N 1 0)))
theorem Q67 {rz1:Q0→Int→Int→Option Int} (hy2:∀ {v} {deep} {most} {r},rz1 v deep most=some r→pU 88 [.agg (Q0.cells v),.int .i64 deep,.int .i64 most] (.int .i64 r)) {N} {v} {deep} {most} {r} (h:Vu rz1 N v deep most=some r):pU 88 [.agg (Q0.cells v),.int .i64 deep,.int .i64 most] (.int .i64 r):=by
 refine Q3 k88 ?_;unfold Vu at h;rw [cX] at h;refine iL h fun h=>?_;refine iL h fun h=>?_;refine iL h fun h=>?_;refine lpH (τ:=Int×Int) (fun ⟨n18,i19⟩=>(.any::iI deep::iI most :: .ptr 0 0::a2 (.any::iI n18::iI i19::a16 (a16 (a8 (a2 (.any :: []))))):List AV)) (fun n0 ⟨n18,i19⟩=>Y1 rz1 N v deep most n0 n18 i19) (1,0) h fun n0 ⟨n18,i19⟩ h=>?_
 first | rw [Y1] at h | simp only [Y1] at h
 rw [cX] at h;refine iR h fun h=>?_;refine iR h fun h=>?_;refine Q0.xR h fun y22 h=>?_;refine cP h hy2 (.cons q4 p2) fun v24 h=>?_;show Exists _;exact ⟨(n0,(wrap .i64 (n18+v24)),(wrap .i64 (i19+1))),h,Lg _,(fun i=>i),Yq⟩
def Zm:Nat→Q0→Int→Int→Option Int
 | 0=>fun _ _ _=>none
 | N+1=>Vu (Zm N) N
theorem Q5z {N} {v} {deep} {most} {r} (h:Zm N v deep most=some r):pU 88 [.agg (Q0.cells v),.int .i64 deep,.int .i64 most] (.int .i64 r):=by
 induction N generalizing v deep most r with
 | zero=>simp [Zm] at h
 | succ N ih=>exact Q67 (fun h=>ih h) h
def Xu (N:Nat) (v:Q0):Option Bool:=
 (Zm N v 6 40).bind fun v1=>
 some (Q5 .leq v1 40)
theorem Q3c {N} {v} {r} (h:Xu N v=some r):pU 44 [.agg (Q0.cells v)] (.bool r):=by
 refine Q3 k44 ?_;unfold Xu at h;rw [cX] at h;refine cP h Q5z (.cons q4 p2) fun v1 h=>?_;cases h;exact (.p _)
def Z9 (N:Nat) (f:Zg):Nat→Int→Option Bool
 | 0,_=>none
 | n+1,i17=>
  cond (Q5 .lss i17 ((Q0.rows f.Values).length:Int))
  ((idx f.Values i17).bind fun y19=>
  (Xu N y19).bind fun v21=>
  cond (!v21)
  (some false)
  (Z9 N f n (wrap .i64 (i17+1))))
  (some true)
def Y2 (N:Nat) (f:Zg):Option Bool:=
 cond (Q5 .gtr ((Q0.rows f.Values).length:Int) 6)
 (some false)
 (cond (Q5 .gtr (f.Ext.length:Int) 1100)
 (some false)
 (Z9 N f N 0))
theorem Q3d {N} {f} {r} (h:Y2 N f=some r):pU 22 [.agg (Zg.cells f)] (.bool r):=by
 refine Q3 k22 ?_;unfold Y2 at h;rw [cX] at h;refine iL h fun h=>?_;refine iL h fun h=>?_;refine lpH (τ:=Int) (fun i17=>(.any :: .ptr 0 0 :: .any::iI i17::a16 (a8 ([])):List AV)) (fun n0 i17=>Z9 N f n0 i17) (0) h fun n0 i17 h=>?_
 first | rw [Z9] at h | simp only [Z9] at h
 rw [cX] at h;refine iR h fun h=>?_;refine Q0.xR h fun y19 h=>?_;refine cP h Q3c (.cons q4 .nil) fun v21 h=>?_;refine iL h fun h=>?_;show Exists _;exact ⟨(n0,(wrap .i64 (i17+1))),h,Lg _,(fun i=>i),Yq⟩
def V2 (N:Nat) (e:Qa):Option Bool:=
 cond (Q5 .leq (e.Topic.length:Int) 2000)
 (cond (Q5 .leq (e.Payload.length:Int) 2000)
 ((Za N e.Props).bind fun v3=>
 cond v3
 ((Ws N e.Packet).bind fun v6=>
 cond v6
 ((W4 N (⟨e.Hops,e.Msg⟩:Qm)).bind fun v9=>
 cond v9
 ((Y2 N e.Frame).bind fun v12=>
 some v12)
 (some false))
 (some false))
 (some false))
 (some false))
 (some false)
theorem Q3e {N} {e} {r} (h:V2 N e=some r):pU 8 [.agg (Qa.cells e)] (.bool r):=by
 refine Q3 k8 ?_;unfold V2 at h;rw [cX] at h;refine iR h fun h=>?_;refine iR h fun h=>?_;refine cP h X9 p1 fun v3 h=>?_;refine iR h fun h=>?_;refine cP h Q2u (.cons (Ar (Yo (f2_ (f1_ (.cons (.p _) p5))))) .nil) fun v6 h=>?_;refine iR h fun h=>?_;refine cP h Q2b (.cons (Ar (f8_ (f2_ (f1_ (.cons (.p _) p5))))) .nil) fun v9 h=>?_;refine iR h fun h=>?_;refine cP h Q3d (.cons q4 .nil) fun v12 h=>?_;cases h;exact (.p _)
def Jt (_N:Nat) (s_0:List UInt8):Option Bool:=
 cond (Q5 .geq (s_0.length:Int) 3)
 (cond (Nat.ble 0 3&&Nat.ble 3 s_0.length) (some (Q0k .eql ((s_0.take 3).drop 0) [239,191,189])) none)
 (some false)
theorem Q9g {N} {s_0} {r} (h:Jt N s_0=some r):pU 181 [.str s_0] (.bool r):=by
 refine Q3 Zbb ?_;unfold Jt at h;rw [cX,cY] at h;refine iR h fun h=>?_;refine kU h fun h=>?_;cases h;exact (.p _)
def Wd (N:Nat) (s_0:List UInt8):Nat→Nat→Option Int
 | 0,_=>none
 | n+1,pos16=>
  cond (Nat.blt pos16 s_0.length)
  (cond (Q5 .eql (((Qap s_0 pos16).1:Nat):Int) 0)
  (some ((pos16:Nat):Int))
  (cond (Q5 .eql (((Qap s_0 pos16).1:Nat):Int) 65533)
  (cond (Nat.ble pos16 s_0.length&&Nat.ble s_0.length s_0.length) ((Jt N ((s_0.take s_0.length).drop pos16)).bind fun v21=>
  cond (!v21)
  (some ((pos16:Nat):Int))
  (Wd N s_0 n (pos16+(Qap s_0 pos16).2))) none)
  (Wd N s_0 n (pos16+(Qap s_0 pos16).2))))
  (some (-1))
def Q2r (N:Nat) (s_0:List UInt8):Option Int:=
 Wd N s_0 N 0
theorem Qba {N} {s_0} {r} (h:Q2r N s_0=some r):pU 144 [.str s_0] (.int .i64 r):=by
 refine Q3 Z7y ?_;unfold Q2r at h;refine lpA (τ:=Nat) (fun _=>(iS s_0::a4 (.any :: .ptr 0 0::a16 (a2 ([]))):List AV)) (fun pos16=>(.strIter s_0 pos16 :: []:List AObj)) (fun n0 pos16=>Wd N s_0 n0 pos16) (0) h fun n0 pos16 h=>?_
 first | rw [Wd] at h | simp only [Wd] at h
 rw [cX] at h;refine iR h fun h=>?_;refine iL h fun h=>?_;apply iU h<;>intro h
 ·refine kU h fun h=>?_;refine cP h Q9g p1 fun v21 h=>?_;refine iL h fun h=>?_;show Exists _;exact ⟨(n0,(pos16+(Qap s_0 pos16).2)),h,Lg _,(fun i=>i),Yq⟩
 show Exists _;exact ⟨(n0,(pos16+(Qap s_0 pos16).2)),h,Lg _,(fun i=>i),Yq⟩
def Xa (N:Nat) (s_0:List UInt8):Option Bool:=
 cond (Q5 .leq (s_0.length:Int) 65535)
 ((Q2r N s_0).bind fun v2=>
 some (Q5 .eql v2 (-1)))
 (some false)
theorem W3 {N} {s_0} {r} (h:Xa N s_0=some r):pU 113 [.str s_0] (.bool r):=by
 refine Q3 Z9i ?_;unfold Xa at h;rw [cX] at h;refine iR h fun h=>?_;refine cP h Qba p1 fun v2 h=>?_;cases h;exact (.p _)
def Q40 (N:Nat) (s_0:List UInt8):Option Bool:=
 cond (Q0k .neq s_0 [])
 ((Xa N s_0).bind fun v2=>
 some v2)
 (some false)
theorem Qcc {N} {s_0} {r} (h:Q40 N s_0=some r):pU 89 [.str s_0] (.bool r):=by
 refine Q3 k89 ?_;unfold Q40 at h;rw [cY] at h;refine iR h fun h=>?_;refine cP h W3 p1 fun v2 h=>?_;cases h;exact (.p _)
def X7 (_N:Nat) (s_0:List UInt8) (c:Int):Option Int:=
 some (Qkw s_0 (UInt8.ofNat (Int.toNat c)) 0:Int)
theorem Q05 {N} {s_0} {c} {r} (h:X7 N s_0 c=some r):pU 207 [.str s_0,.int .u8 c] (.int .i64 r):=by
 refine Q3 Z3x ?_;unfold X7 at h;cases h;exact (.p _)
def Jb (N:Nat) (s_0:List UInt8) (c:Int):Option Int:=
 (X7 N s_0 c).bind fun v1=>
 some v1
theorem Q1h {N} {s_0} {c} {r} (h:Jb N s_0 c=some r):pU 182 [.str s_0,.int .u8 c] (.int .i64 r):=by
 refine Q3 Z6a ?_;unfold Jb at h;refine cP h Q05 p2 fun v1 h=>?_;cases h;exact (.p _)
def Xw (_N:Nat) (r_0:Int):Option Bool:=
 cond (Q5 .leq 0 r_0)
 (cond (Q5 .lss r_0 55296)
 (some true)
 (cond (Q5 .lss 57343 r_0)
 (cond (Q5 .leq r_0 1114111)
 (some true)
 (some false))
 (some false)))
 (cond (Q5 .lss 57343 r_0)
 (cond (Q5 .leq r_0 1114111)
 (some true)
 (some false))
 (some false))
theorem Q3g {N} {r_0} {r} (h:Xw N r_0=some r):pU 183 [.int .i32 r_0] (.bool r):=by
 refine Q3 Zdh ?_;unfold Xw at h;rw [cX] at h;apply iU h<;>intro h
 ·refine iL h fun h=>?_;refine iR h fun h=>?_;exact iB h
 refine iR h fun h=>?_;exact iB h
def Y0 (N:Nat) (s_0:List UInt8):Nat→Nat→Option Int
 | 0,_=>none
 | n+1,pos13=>
  cond (Nat.blt pos13 s_0.length)
  (cond (Q5 .eql (((Qap s_0 pos13).1:Nat):Int) 65533)
  (some ((pos13:Nat):Int))
  (Y0 N s_0 n (pos13+(Qap s_0 pos13).2)))
  (some (-1))
def Wg (N:Nat) (s_0:List UInt8) (r_1:Int) (v82:Int):Nat→Int→Option Int
 | 0,_=>none
 | n+1,j98=>
  cond (Q5 .lss j98 (((Utf8.encode r_1).data.toList).length:Int))
  ((idx s_0 (wrap .i64 ((wrap .i64 ((wrap .i64 ((((Utf8.encode r_1).data.toList).length:Int) - 1))+(wrap .i64 (v82+1)))) - j98))).bind fun b100=>
  (idx ((Utf8.encode r_1).data.toList) (wrap .i64 ((wrap .i64 ((((Utf8.encode r_1).data.toList).length:Int) - 1)) - j98))).bind fun b102=>
  cond (Q5 .neq (b100.toNat:Int) (b102.toNat:Int))
  (none)
  (Wg N s_0 r_1 v82 n (wrap .i64 (j98+1))))
  (some (wrap .i64 ((wrap .i64 ((wrap .i64 ((((Utf8.encode r_1).data.toList).length:Int) - 1))+(wrap .i64 (v82+1)))) - (wrap .i64 ((((Utf8.encode r_1).data.toList).length:Int) - 1)))))
def Wm (N:Nat) (s_0:List UInt8) (r_1:Int):Nat→Int→Option Int
 | 0,_=>none
 | n+1,j118=>
  cond (Q5 .lss j118 (((Utf8.encode r_1).data.toList).length:Int))
  ((idx s_0 (wrap .i64 ((wrap .i64 ((((Utf8.encode r_1).data.toList).length:Int) - 1)) - j118))).bind fun b120=>
  (idx ((Utf8.encode r_1).data.toList) (wrap .i64 ((wrap .i64 ((((Utf8.encode r_1).data.toList).length:Int) - 1)) - j118))).bind fun b122=>
  cond (Q5 .neq (b120.toNat:Int) (b122.toNat:Int))
  (none)
  (Wm N s_0 r_1 n (wrap .i64 (j118+1))))
  (some (wrap .i64 ((wrap .i64 ((((Utf8.encode r_1).data.toList).length:Int) - 1)) - (wrap .i64 ((((Utf8.encode r_1).data.toList).length:Int) - 1)))))
def Xm (N:Nat) (s_0:List UInt8) (r_1:Int):Nat→Option Int
 | 0=>none
 | n+1=>
  cond (Q5 .lss (wrap .i64 ((((Utf8.encode r_1).data.toList).length:Int) - 1)) (s_0.length:Int))
  ((idx s_0 (wrap .i64 ((((Utf8.encode r_1).data.toList).length:Int) - 1))).bind fun b73=>
  (idx ((Utf8.encode r_1).data.toList) (wrap .i64 ((((Utf8.encode r_1).data.toList).length:Int) - 1))).bind fun b75=>
  cond (Q5 .neq (b73.toNat:Int) (b75.toNat:Int))
  (cond (decide (0≤(wrap .i64 ((wrap .i64 ((((Utf8.encode r_1).data.toList).length:Int) - 1))+1)))) (cond (Nat.ble (wrap .i64 ((wrap .i64 ((((Utf8.encode r_1).data.toList).length:Int) - 1))+1)).toNat s_0.length&&Nat.ble s_0.length s_0.length) ((idx ((Utf8.encode r_1).data.toList) (wrap .i64 ((((Utf8.encode r_1).data.toList).length:Int) - 1))).bind fun b80=>
  (Jb N ((s_0.take s_0.length).drop ((wrap .i64 ((wrap .i64 ((((Utf8.encode r_1).data.toList).length:Int) - 1))+1)).toNat)) (b80.toNat:Int)).bind fun v82=>
  cond (Q5 .lss v82 0)
  (some (-1))
  (Wg N s_0 r_1 v82 N 1)) none) none)
  (Wm N s_0 r_1 N 1))
  (some (-1))
def Wk (N:Nat) (s_0:List UInt8) (r_1:Int) (s2:Bool):Option Int:=
 cond s2
 ((Jb N s_0 (wrap .u8 r_1)).bind fun v5=>
 some v5)
 (cond (Q5 .eql r_1 65533)
 (Y0 N s_0 N 0)
 ((Xw N r_1).bind fun v16=>
 cond (!v16)
 (some (-1))
 (Xm N s_0 r_1 N)))
def J6 (N:Nat) (s_0:List UInt8) (r_1:Int):Option Int:=
 cond (Q5 .leq 0 r_1)
 (Wk N s_0 r_1 (Q5 .lss r_1 128))
 (Wk N s_0 r_1 false)
theorem Q62 {N} {s_0} {r_1} {r} (h:J6 N s_0 r_1=some r):pU 145 [.str s_0,.int .i32 r_1] (.int .i64 r):=by
 refine Q3 Zat ?_;unfold J6 at h;rw [cX] at h;refine jrH (r:=r) (σ:=Bool) (fun s2=>(iS s_0 :: .p (.int .i32 r_1)::a16 (a16 (a16 (a16 (a16 (a16 (a16 (a16 (a16 (a8 (a4 (a2 (.p (.bool s2)::a16 (a8 (a2 ([]))))))))))))))):List AV)) (fun s2=>Wk N s_0 r_1 s2) ?_ ?_
 ·apply iU h<;>intro h
  ·show Exists _;exact ⟨((Qlt .lss r_1 128)),h,(fun i=>i),Yq⟩
  show Exists _;exact ⟨(false),h,(fun i=>i),Yq⟩
 rintro s2 h
 unfold Wk at h;rw [cX] at h;apply iU h<;>intro h
 ·refine cP h Q1h p2 fun v5 h=>?_;cases h;exact (.p _)
 apply iU h<;>intro h
 ·refine lpA (τ:=Nat) (fun _=>(a16 (a16 (a16 (a16 (a16 (a16 (a16 (a16 (a16 (a16 (a8 (a4 (a2 (.any :: .ptr 0 0::a8 (a2 (.any :: []))))))))))))))):List AV)) (fun pos13=>(.strIter s_0 pos13 :: []:List AObj)) (fun n1 pos13=>Y0 N s_0 n1 pos13) (0) h fun n1 pos13 h=>?_
  first | rw [Y0] at h | simp only [Y0] at h
  rw [cX] at h;refine iR h fun h=>?_;refine iL h fun h=>?_;show Exists _;exact ⟨(n1,(pos13+(Qap s_0 pos13).2)),h,Lg _,(fun i=>i),Yq⟩
 refine cP h Q3g p1 fun v16 h=>?_;refine iL h fun h=>?_;refine lpH (τ:=Unit) (fun _=>(iS s_0::a4 (a2 (iS ((Utf8.encode r_1).data.toList) :: .p (.int .i64 (wrap .i64 ((((Utf8.encode r_1).data.toList).length:Int) - 1))) :: .p (.int .i64 (wrap .i64 ((((Utf8.encode r_1).data.toList).length:Int) - 1)))::a16 (a16 (a16 (a16 (a16 (a16 (a16 (a16 (a16 (a16 (a16 (.any :: []))))))))))))):List AV)) (fun n2 ⟨⟩=>Xm N s_0 r_1 n2) () h fun n2 ⟨⟩ h=>?_
 first | rw [Xm] at h | simp only [Xm] at h
 rw [cX] at h;refine iR h fun h=>?_;refine Qi ?_;refine xB h fun b73 h=>?_;refine xB h fun b75 h=>?_;apply iU h<;>intro h
 ·refine Qi ?_;refine kU h fun h=>?_;refine kU h fun h=>?_;refine xB h fun b80 h=>?_;refine cD h Q1h p2 fun v82 h=>?_;refine iL h fun h=>?_;refine lpH (τ:=Int) (fun j98=>(iS s_0::a4 (a2 (iS ((Utf8.encode r_1).data.toList) :: .p (.int .i64 (wrap .i64 ((((Utf8.encode r_1).data.toList).length:Int) - 1))) :: .p (.int .i64 (wrap .i64 ((wrap .i64 ((((Utf8.encode r_1).data.toList).length:Int) - 1))+(wrap .i64 (v82+1))))) :: .any :: .any::iI j98::a16 (a16 (a16 (a16 (a16 (a16 (a16 (a16 (a16 (a16 (a8 (a4 (a2 ([]))))))))))))))):List AV)) (fun n3 j98=>Wg N s_0 r_1 v82 n3 j98) (1) h fun n3 j98 h=>?_
  first | rw [Wg] at h | simp only [Wg] at h
  rw [cX] at h;refine iR h fun h=>?_;refine Qi ?_;refine xB h fun b100 h=>?_;refine xB h fun b102 h=>?_;apply iU h<;>intro h
  ·first | (cases h;done) | (simp [U6] at h;done)
  show Exists _;exact ⟨(n3,(wrap .i64 (j98+1))),h,Lg _,(fun i=>i),Yq⟩
 refine lpH (τ:=Int) (fun j118=>(iS s_0::a4 (a2 (iS ((Utf8.encode r_1).data.toList) :: .p (.int .i64 (wrap .i64 ((((Utf8.encode r_1).data.toList).length:Int) - 1))) :: .p (.int .i64 (wrap .i64 ((((Utf8.encode r_1).data.toList).length:Int) - 1))) :: .any :: .any::iI j118::a16 (a16 (a16 (a16 (a16 (a16 (a16 (a16 (a16 (a16 (a8 (a4 (a2 ([]))))))))))))))):List AV)) (fun n4 j118=>Wm N s_0 r_1 n4 j118) (1) h fun n4 j118 h=>?_
 first | rw [Wm] at h | simp only [Wm] at h
 rw [cX] at h;refine iR h fun h=>?_;refine Qi ?_;refine xB h fun b120 h=>?_;refine xB h fun b122 h=>?_;apply iU h<;>intro h
 ·first | (cases h;done) | (simp [U6] at h;done)
 show Exists _;exact ⟨(n4,(wrap .i64 (j118+1))),h,Lg _,(fun i=>i),Yq⟩
def Vx (_N:Nat) (bufLen:Int):Option Bool:=
 some (Q5 .gtr bufLen 8)
theorem Q24 {N} {bufLen} {r} (h:Vx N bufLen=some r):pU 146 [.int .i64 bufLen] (.bool r):=by
 refine Q3 Zao ?_;unfold Vx at h;rw [cX] at h;cases h;exact (.p _)
def X5 (N:Nat) (s_0:List UInt8):Nat→Int→Option Int
 | 0,_=>none
 | n+1,i20=>
  cond (Q5 .lss i20 (s_0.length:Int))
  ((idx s_0 i20).bind fun b22=>
  cond (decide (0≤(b22.toNat:Int))&&decide ((b22.toNat:Int)<((256:Nat):Int))) ((idx ([false,false,false,false,false,false,false,false,false,false,false,false,false,false,false,false,false,false,false,false,false,false,false,false,false,false,false,false,false,false,false,false,false,false,false,true,false,false,false,false,false,false,false,true,false,false,false,false,false,false,false,false,false,false,false,false,false,false,false,false,false,false,false,false,false,false,false,false,false,false,false,false,false,false,false,false,false,false,false,false,false,false,false,false,false,false,false,false,false,false,false,false,false,false,false,false,false,false,false,false,false,false,false,false,false,false,false,false,false,false,false,false,false,false,false,false,false,false,false,false,false,false,false,false,false,false,false,false,false,false,false,false,false,false,false,false,false,false,false,false,false,false,false,false,false,false,false,false,false,false,false,false,false,false,false,false,false,false,false,false,false,false,false,false,false,false,false,false,false,false,false,false,false,false,false,false,false,false,false,false,false,false,false,false,false,false,false,false,false,false,false,false,false,false,false,false,false,false,false,false,false,false,false,false,false,false,false,false,false,false,false,false,false,false,false,false,false,false,false,false,false,false,false,false,false,false,false,false,false,false,false,false,false,false,false,false,false,false,false,false,false,false,false,false,false,false,false,false,false,false,false,false,false,false,false,false]:List Bool) (b22.toNat:Int)).bind fun y24=>
  cond y24
  (some i20)
  (X5 N s_0 n (wrap .i64 (i20+1)))) none)
  (some (-1))
def X6 (N:Nat) (s_0:List UInt8):Nat→Nat→Option Int
 | 0,_=>none
 | n+1,pos37=>
  cond (Nat.blt pos37 s_0.length)
  ((J6 N [43,35] (((Qap s_0 pos37).1:Nat):Int)).bind fun v39=>
  cond (Q5 .geq v39 0)
  (some ((pos37:Nat):Int))
  (X6 N s_0 n (pos37+(Qap s_0 pos37).2)))
  (some (-1))
def Uc (N:Nat) (s_0:List UInt8):Option Int:=
 cond (Q0k .eql [43,35] [])
 (some (-1))
 ((Vx N (s_0.length:Int)).bind fun v2=>
 cond v2
 (X5 N s_0 N 0)
 (X6 N s_0 N 0))
theorem Q4j {N} {s_0} {r} (h:Uc N s_0=some r):pU 114 [.str s_0,.str [43,35]] (.int .i64 r):=by
 refine Q3 Z5i ?_;unfold Uc at h;rw [cY] at h;refine iL h fun h=>?_;refine dF ?_;refine cP h Q24 p1 fun v2 h=>?_;apply iU h<;>intro h
 ·refine Qe Z9x ?_;refine Qy 4 ?_;refine dT ?_;refine dF ?_;refine dT ?_;refine dF ?_;refine dF ?_;refine lpH (τ:=Int) (fun i20=>(iS s_0::a4 (.any :: .ptr 1 0 :: .any::iI i20::a16 (a16 (a8 (a4 (a2 ([])))))):List AV)) (fun n0 i20=>X5 N s_0 n0 i20) (0) h fun n0 i20 h=>?_
  first | rw [X5] at h | simp only [X5] at h
  rw [cX] at h;refine iR h fun h=>?_;refine xB h fun b22 h=>?_;refine Qe Zc7 ?_;refine kU h fun h=>?_;obtain ⟨y24,hy25,h⟩:=Q0m h
  refine Q6j (c:=cB) (e:=1) (fun _=>rfl) hy25 (off:=0) (by decide) (by first | omega | (simp only [Qan,orI,Qtv,Q58,Qh7,Qot];omega)) ?_
  refine iL h fun h=>?_;show Exists _;exact ⟨(n0,(wrap .i64 (i20+1))),h,Lg _,(fun i=>i),Yq⟩
 refine lpA (τ:=Nat) (fun _=>(.any :: .p (.str [43,35])::a16 (a16 (a8 (a2 (.any :: .ptr 0 0::a8 (.any :: []))))):List AV)) (fun pos37=>(.strIter s_0 pos37 :: []:List AObj)) (fun n1 pos37=>X6 N s_0 n1 pos37) (0) h fun n1 pos37 h=>?_
 first | rw [X6] at h | simp only [X6] at h
 rw [cX] at h;refine iR h fun h=>?_;refine cP h Q62 p2 fun v39 h=>?_;refine iL h fun h=>?_;show Exists _;exact ⟨(n1,(pos37+(Qap s_0 pos37).2)),h,Lg _,(fun i=>i),Yq⟩
def V7 (N:Nat) (s_0:List UInt8):Option Bool:=
 (Uc N s_0).bind fun v1=>
 some (Q5 .geq v1 0)
theorem Q3l {N} {s_0} {r} (h:V7 N s_0=some r):pU 90 [.str s_0,.str [43,35]] (.bool r):=by
 refine Q3 k90 ?_;unfold V7 at h;rw [cX] at h;refine cP h Q4j p2 fun v1 h=>?_;cases h;exact (.p _)
def Yx (N:Nat) (s_0:List UInt8):Option Bool:=
 (Q40 N s_0).bind fun v1=>
 cond v1
 ((V7 N s_0).bind fun v4=>
 some (!v4))
 (some false)
theorem Xn {N} {s_0} {r} (h:Yx N s_0=some r):pU 45 [.str s_0] (.bool r):=by
 refine Q3 k45 ?_;unfold Yx at h;refine cP h Qcc p1 fun v1 h=>?_;refine iR h fun h=>?_;refine cP h Q3l p2 fun v4 h=>?_;cases h;exact (.p _)
def Gz (N:Nat) (R:Reg) (c n:List UInt8):Option ((Int×Bool×Int)×Reg):=(Yx N n).bind fun b=>if WR R then some (Qq5 b R c n) else none
theorem Qa4 {N R c n r} (h:Gz N R c n=some r):Q3x Tryz.prog G1 25 R [.str c,.str n] (.tuple [.int .i64 r.1.1,.bool r.1.2.1,.int .i64 r.1.2.2]) r.2:=by
 obtain ⟨b,hb,h⟩:=Q0m h;split at h
 ·cases h;exact Qvi (by assumption) (Xn hb)
 cases h
def Z6 (N:Nat) (r_0:Q2) (client:List UInt8):Nat→Int→Option ((List Zf)×Q2)
 | 0,_=>none
 | n+1,i18=>
  cond (Q5 .lss i18 ((Q8 Q1.cells r_0.L).length:Int))
  ((idx r_0.L i18).bind fun y20=>
  cond (Q0k .eql y20.client client)
  ((idx r_0.L i18).bind fun y23=>
  cond (Nat.beq (Q8 Zf.cells y23.l).length 0)
  (some ([],r_0))
  (cond (Nat.ble ((0+(Q8 Zf.cells y23.l).length+4096) * 32) 17592186044416) (some ((([]:List Zf)++y23.l),r_0)) none))
  (Z6 N r_0 client n (wrap .i64 (i18+1))))
  (some ([],r_0))
def Zw (N:Nat) (r_0:Q2) (client:List UInt8):Option ((List Zf)×Q2):=
 Z6 N r_0 client N 0
theorem U1 {N} {r_0} {client} {r} (h:Zw N r_0 client=some r):Qov Tryz.prog G1 49 (Q2.cells r_0) [.str client] (.slice 3 (Q8 Zf.cells r.1)) (Q2.cells r.2):=by
 refine Q4f k49 ?_;unfold Zw at h;refine lpH (τ:=Int) (fun i18=>(.ptr 0 0::iS client::a2 (.any::iI i18::a16 (a8 (a4 (.any :: [])))):List AV)) (fun n0 i18=>Z6 N r_0 client n0 i18) (0) h fun n0 i18 h=>?_
 first | rw [Z6] at h | simp only [Z6] at h
 rw [cX,cY] at h;apply iU h<;>intro h
 ·refine xR h fun y20 h=>?_;apply iU h<;>intro h
  ·refine xR h fun y23 h=>?_;refine Qdj (c:=Zf.cells) (vs:=y23.l) rfl ?_;apply iU h<;>intro h
   ·obtain rfl:=Qt h;exact ⟨_,_,rfl,p1,(frz_own (c:=Zf.cells) (l:=([]:List Zf)) (fun _=>rfl) rfl (by decide) sd)⟩
   obtain ⟨hk25,h⟩:=Q66 h;refine Q37 (Xo (c:=Zf.cells) (e:=3) (l:=([]:List Zf)) (fun _=>rfl) sd hk25) ?_;obtain rfl:=Qt h;exact ⟨_,_,rfl,p1,(frz_own (c:=Zf.cells) (l:=((([]:List Zf)++y23.l):List Zf)) (fun _=>rfl) rfl (by decide) sd)⟩
  show Exists _;exact ⟨(n0,(wrap .i64 (i18+1))),h,Lg _,(fun i=>i),Yq⟩
 obtain rfl:=Qt h;exact ⟨_,_,rfl,p1,(.nil _)⟩
def Q7 (N:Nat) (r_0:Q2) (client:List UInt8) (l:List Zf):Nat→Bool→Int→(List Q1)→Option ((Unit)×Q2)
 | 0,_,_,_=>none
 | n+1,in24,i25,l26=>
  cond (Q5 .lss i25 ((Q8 Q1.cells r_0.L).length:Int))
  ((idx r_0.L i25).bind fun y28=>
  cond (!in24)
  (cond (Q0k .lss client y28.client)
  (cond (Nat.ble ((l26.length+1+4096) * 40) 17592186044416) (cond (Q0k .neq y28.client client)
  (cond (Nat.ble (((l26.length+1)+1+4096) * 40) 17592186044416) (Q7 N r_0 client l n true (wrap .i64 (i25+1)) ((l26 ++ [(⟨client,l⟩:Q1)]) ++ [y28])) none)
  (Q7 N r_0 client l n true (wrap .i64 (i25+1)) (l26 ++ [(⟨client,l⟩:Q1)]))) none)
  (cond (Q0k .neq y28.client client)
  (cond (Nat.ble ((l26.length+1+4096) * 40) 17592186044416) (Q7 N r_0 client l n in24 (wrap .i64 (i25+1)) (l26 ++ [y28])) none)
  (Q7 N r_0 client l n in24 (wrap .i64 (i25+1)) l26)))
  (cond (Q0k .neq y28.client client)
  (cond (Nat.ble ((l26.length+1+4096) * 40) 17592186044416) (Q7 N r_0 client l n in24 (wrap .i64 (i25+1)) (l26 ++ [y28])) none)
  (Q7 N r_0 client l n in24 (wrap .i64 (i25+1)) l26)))
  (cond (!in24)
  (cond (Nat.ble ((l26.length+1+4096) * 40) 17592186044416) (some ((),(⟨(l26 ++ [(⟨client,l⟩:Q1)])⟩:Q2))) none)
  (some ((),(⟨l26⟩:Q2))))
def Ya (N:Nat) (r_0:Q2) (client:List UInt8) (l:List Zf):Option ((Unit)×Q2):=
 Q7 N r_0 client l N (Q5 .eql ((Q8 Zf.cells l).length:Int) 0) 0 []
theorem Uu {N} {r_0} {client} {l} {r} (h:Ya N r_0 client l=some r):Qov Tryz.prog G1 50 (Q2.cells r_0) [.str client,.slice 3 (Q8 Zf.cells l)] (.tuple []) (Q2.cells r.2):=by
 refine Q4f k50 ?_;unfold Ya at h;rw [cX] at h;refine lpA (τ:=Bool×Int×(List Q1)) (fun ⟨in24,i25,l26⟩=>(.ptr 0 0::iS client :: .p (.slice 3 (Q8 Zf.cells l))::a2 (.any :: .slice 2 1 0 l26.length :: .p (.bool in24)::iI i25::a16 (a16 (a16 (a4 (a2 ([])))))):List AV)) (fun ⟨_,_,l26⟩=>(.cells (.p (.slice 2 (Q8 Q1.cells r_0.L)) :: []) :: .cells (Wt Q1.cells l26) :: []:List AObj)) (fun n0 ⟨in24,i25,l26⟩=>Q7 N r_0 client l n0 in24 i25 l26) ((Qlt .eql ((Q8 Zf.cells l).length:Int) 0),0,[]) h fun n0 ⟨in24,i25,l26⟩ h=>?_
 first | rw [Q7] at h | simp only [Q7] at h
 rw [cX,cY] at h;apply iU h<;>intro h
 ·refine xR h fun y28 h=>?_;apply iU h<;>intro h
  ·apply iU h<;>intro h
   ·obtain ⟨hk32,h⟩:=Q66 h;refine Q37 (Xo (c:=Q1.cells) (e:=2) (fun _=>rfl) sd hk32) ?_;refine J2 (c:=Q1.cells) [(⟨client,l⟩:Q1)] rfl ?_;apply iU h<;>intro h
    ·obtain ⟨hk34,h⟩:=Q66 h;refine Q37 (Xo (c:=Q1.cells) (e:=2) (fun _=>rfl) sd hk34) ?_;refine J2 (c:=Q1.cells) [y28] rfl ?_;show Exists _;exact ⟨(n0,true,(wrap .i64 (i25+1)),((l26 ++ [(⟨client,l⟩:Q1)]) ++ [y28])),h,Lg _,(rho [0,6]),Yq⟩
    show Exists _;exact ⟨(n0,true,(wrap .i64 (i25+1)),(l26 ++ [(⟨client,l⟩:Q1)])),h,Lg _,(rho [0,4]),Yq⟩
   apply iU h<;>intro h
   ·obtain ⟨hk36,h⟩:=Q66 h;refine Q37 (Xo (c:=Q1.cells) (e:=2) (fun _=>rfl) sd hk36) ?_;refine J2 (c:=Q1.cells) [y28] rfl ?_;show Exists _;exact ⟨(n0,in24,(wrap .i64 (i25+1)),(l26 ++ [y28])),h,Lg _,(rho [0,4]),Yq⟩
   show Exists _;exact ⟨(n0,in24,(wrap .i64 (i25+1)),l26),h,Lg _,(fun i=>i),Yq⟩
  apply iU h<;>intro h
  ·obtain ⟨hk38,h⟩:=Q66 h;refine Q37 (Xo (c:=Q1.cells) (e:=2) (fun _=>rfl) sd hk38) ?_;refine J2 (c:=Q1.cells) [y28] rfl ?_;show Exists _;exact ⟨(n0,in24,(wrap .i64 (i25+1)),(l26 ++ [y28])),h,Lg _,(rho [0,4]),Yq⟩
  show Exists _;exact ⟨(n0,in24,(wrap .i64 (i25+1)),l26),h,Lg _,(fun i=>i),Yq⟩
 apply iU h<;>intro h
 ·obtain ⟨hk40,h⟩:=Q66 h;refine Q37 (Xo (c:=Q1.cells) (e:=2) (fun _=>rfl) sd hk40) ?_;refine J2 (c:=Q1.cells) [(⟨client,l⟩:Q1)] rfl ?_
  obtain rfl:=Qt h;exact ⟨_,_,rfl,(.cons (frz_own (c:=Q1.cells) (l:=((l26 ++ [(⟨client,l⟩:Q1)]):List Q1)) (fun _=>rfl) rfl (by decide) sd) .nil),(by first | exact .p _ | exact .tuple _ _ rfl (fun i v x h=>by simp at h))⟩
 obtain rfl:=Qt h;exact ⟨_,_,rfl,(.cons (frz_own (c:=Q1.cells) (l:=(l26:List Q1)) (fun _=>rfl) rfl (by decide) sd) .nil),(by first | exact .p _ | exact .tuple _ _ rfl (fun i v x h=>by simp at h))⟩
def Ze (N:Nat) (l:List Zf) (t:Zf):Nat→Bool→Int→(List Zf)→Option (List Zf)
 | 0,_,_,_=>none
 | n+1,in27,i28,l29=>
  cond (Q5 .lss i28 ((Q8 Zf.cells l).length:Int))
  (cond (!in27)
  ((idx l i28).bind fun y32=>
  cond (Q5 .lss t.ID y32.ID)
  (cond (Nat.ble ((l29.length+1+4096) * 32) 17592186044416) ((idx l i28).bind fun y36=>
  cond (Nat.ble (((l29.length+1)+1+4096) * 32) 17592186044416) (Ze N l t n true (wrap .i64 (i28+1)) ((l29 ++ [t]) ++ [y36])) none) none)
  ((idx l i28).bind fun y39=>
  cond (Nat.ble ((l29.length+1+4096) * 32) 17592186044416) (Ze N l t n in27 (wrap .i64 (i28+1)) (l29 ++ [y39])) none))
  ((idx l i28).bind fun y42=>
  cond (Nat.ble ((l29.length+1+4096) * 32) 17592186044416) (Ze N l t n in27 (wrap .i64 (i28+1)) (l29 ++ [y42])) none))
  (cond (!in27)
  (cond (Nat.ble ((l29.length+1+4096) * 32) 17592186044416) (some (l29 ++ [t])) none)
  (some l29))
def Wp (N:Nat) (l:List Zf) (t:Zf):Option (List Zf):=
 Ze N l t N false 0 []
theorem Q1i {N} {l} {t} {r} (h:Wp N l t=some r):pU 51 [.slice 3 (Q8 Zf.cells l),.agg (Zf.cells t)] (.slice 3 (Q8 Zf.cells r)):=by
 refine Q3 k51 ?_;unfold Wp at h;refine lpA (τ:=Bool×Int×(List Zf)) (fun ⟨in27,i28,l29⟩=>(.p (.slice 3 (Q8 Zf.cells l)) :: .any :: .any :: .ptr 0 0 :: .any :: .slice 3 1 0 l29.length :: .p (.bool in27)::iI i28::a16 (a16 (a4 ([]))):List AV)) (fun ⟨_,_,l29⟩=>(.cells (iI t.ID::iS t.Name :: .p (.bool t.Fixed) :: []) :: .cells (Wt Zf.cells l29) :: []:List AObj)) (fun n0 ⟨in27,i28,l29⟩=>Ze N l t n0 in27 i28 l29) (false,0,[]) h fun n0 ⟨in27,i28,l29⟩ h=>?_
 first | rw [Ze] at h | simp only [Ze] at h
 rw [cX] at h;apply iU h<;>intro h
 ·refine Qi ?_;apply iU h<;>intro h
  ·refine xR h fun y32 h=>?_;apply iU h<;>intro h
   ·obtain ⟨hk35,h⟩:=Q66 h;refine Q37 (Xo (c:=Zf.cells) (e:=3) (fun _=>rfl) sd hk35) ?_;refine J2 (c:=Zf.cells) [t] rfl ?_;refine xR h fun y36 h=>?_;obtain ⟨hk38,h⟩:=Q66 h;refine Q37 (Xo (c:=Zf.cells) (e:=3) (fun _=>rfl) sd hk38) ?_;refine J2 (c:=Zf.cells) [y36] rfl ?_;show Exists _;exact ⟨(n0,true,(wrap .i64 (i28+1)),((l29 ++ [t]) ++ [y36])),h,Lg _,(rho [0,5]),Yq⟩
   refine xR h fun y39 h=>?_;obtain ⟨hk41,h⟩:=Q66 h;refine Q37 (Xo (c:=Zf.cells) (e:=3) (fun _=>rfl) sd hk41) ?_;refine J2 (c:=Zf.cells) [y39] rfl ?_;show Exists _;exact ⟨(n0,in27,(wrap .i64 (i28+1)),(l29 ++ [y39])),h,Lg _,(rho [0,3]),Yq⟩
  refine xR h fun y42 h=>?_;obtain ⟨hk44,h⟩:=Q66 h;refine Q37 (Xo (c:=Zf.cells) (e:=3) (fun _=>rfl) sd hk44) ?_;refine J2 (c:=Zf.cells) [y42] rfl ?_;show Exists _;exact ⟨(n0,in27,(wrap .i64 (i28+1)),(l29 ++ [y42])),h,Lg _,(rho [0,3]),Yq⟩
 apply iU h<;>intro h
 ·obtain ⟨hk46,h⟩:=Q66 h;refine Q37 (Xo (c:=Zf.cells) (e:=3) (fun _=>rfl) sd hk46) ?_;refine J2 (c:=Zf.cells) [t] rfl ?_;obtain rfl:=Qt h;exact (frz_own (c:=Zf.cells) (l:=((l29 ++ [t]):List Zf)) (fun _=>rfl) rfl trivial sd)
 obtain rfl:=Qt h;exact (frz_own (c:=Zf.cells) (l:=(l29:List Zf)) (fun _=>rfl) rfl trivial sd)
def Zs (_N:Nat) (s_0:List UInt8) (at_1:Int):Option (Int×Bool):=
 cond (Q5 .geq at_1 (s_0.length:Int))
 (some (0,false))
 ((idx s_0 at_1).bind fun b2=>
 cond (Q5 .lss (b2.toNat:Int) 128)
 (some (0,false))
 ((idx s_0 at_1).bind fun b5=>
 cond (Q5 .gtr (b5.toNat:Int) 191)
 (some (0,false))
 ((idx s_0 at_1).bind fun b8=>
 some ((wrap .i64 ((wrap .i64 (b8.toNat:Int)) - 128)),true))))
theorem Yn {N} {s_0} {at_1} {r} (h:Zs N s_0 at_1=some r):pU 171 [.str s_0,.int .i64 at_1] (.tuple [.int .i64 r.1,.bool r.2]):=by
 refine Q3 Zcm ?_;unfold Zs at h;rw [cX] at h;refine iL2 h fun h=>?_;refine xB h fun b2 h=>?_;refine iL2 h fun h=>?_;refine xB h fun b5 h=>?_;refine iL2 h fun h=>?_;refine xB h fun b8 h=>?_;obtain rfl:=Qt h;exact u2
def Z1 (N:Nat) (s_0:List UInt8) (at_1:Int):Nat→Int→Int→Option (Int×Int)
 | 0,_,_=>none
 | n+1,n15,i17=>
  cond (Q5 .lss i17 2)
  ((Zs N s_0 (wrap .i64 (at_1+i17))).bind fun v19=>
  cond (!v19.2)
  (some (0,0))
  (Z1 N s_0 at_1 n (wrap .i64 ((wrap .i64 (64 * n15))+v19.1)) (wrap .i64 (i17+1))))
  (cond (Q5 .lss n15 128)
  (some (0,0))
  (cond (Q5 .gtr n15 1114111)
  (some (0,0))
  (cond (Q5 .geq n15 55296)
  (cond (Q5 .leq n15 57343)
  (some (0,0))
  (some (n15,2)))
  (some (n15,2)))))
def Z2 (N:Nat) (s_0:List UInt8) (at_1:Int):Nat→Int→Int→Option (Int×Int)
 | 0,_,_=>none
 | n+1,n38,i39=>
  cond (Q5 .lss i39 3)
  ((Zs N s_0 (wrap .i64 (at_1+i39))).bind fun v41=>
  cond (!v41.2)
  (some (0,0))
  (Z2 N s_0 at_1 n (wrap .i64 ((wrap .i64 (64 * n38))+v41.1)) (wrap .i64 (i39+1))))
  (cond (Q5 .lss n38 2048)
  (some (0,0))
  (cond (Q5 .gtr n38 1114111)
  (some (0,0))
  (cond (Q5 .geq n38 55296)
  (cond (Q5 .leq n38 57343)
  (some (0,0))
  (some (n38,3)))
  (some (n38,3)))))
def Z3 (N:Nat) (s_0:List UInt8) (at_1:Int):Nat→Int→Int→Option (Int×Int)
 | 0,_,_=>none
 | n+1,n59,i60=>
  cond (Q5 .lss i60 4)
  ((Zs N s_0 (wrap .i64 (at_1+i60))).bind fun v62=>
  cond (!v62.2)
  (some (0,0))
  (Z3 N s_0 at_1 n (wrap .i64 ((wrap .i64 (64 * n59))+v62.1)) (wrap .i64 (i60+1))))
  (cond (Q5 .lss n59 65536)
  (some (0,0))
  (cond (Q5 .gtr n59 1114111)
  (some (0,0))
  (cond (Q5 .geq n59 55296)
  (cond (Q5 .leq n59 57343)
  (some (0,0))
  (some (n59,4)))
  (some (n59,4)))))
def Xy (N:Nat) (s_0:List UInt8) (at_1:Int):Nat→Int→Int→Option (Int×Int)
 | 0,_,_=>none
 | n+1,n80,i81=>
  cond (Q5 .lss i81 4)
  ((Zs N s_0 (wrap .i64 (at_1+i81))).bind fun v83=>
  cond (!v83.2)
  (some (0,0))
  (Xy N s_0 at_1 n (wrap .i64 ((wrap .i64 (64 * n80))+v83.1)) (wrap .i64 (i81+1))))
  (cond (Q5 .lss n80 65536)
  (some (0,0))
  (cond (Q5 .gtr n80 1114111)
  (some (0,0))
  (cond (Q5 .geq n80 55296)
  (cond (Q5 .leq n80 57343)
  (some (0,0))
  (some (n80,4)))
  (some (n80,4)))))
def Xs (N:Nat) (s_0:List UInt8) (at_1:Int):Nat→Int→Int→Option (Int×Int)
 | 0,_,_=>none
 | n+1,n101,i102=>
  cond (Q5 .lss i102 3)
  ((Zs N s_0 (wrap .i64 (at_1+i102))).bind fun v104=>
  cond (!v104.2)
  (some (0,0))
  (Xs N s_0 at_1 n (wrap .i64 ((wrap .i64 (64 * n101))+v104.1)) (wrap .i64 (i102+1))))
  (cond (Q5 .lss n101 2048)
  (some (0,0))
  (cond (Q5 .gtr n101 1114111)
  (some (0,0))
  (cond (Q5 .geq n101 55296)
  (cond (Q5 .leq n101 57343)
  (some (0,0))
  (some (n101,3)))
  (some (n101,3)))))
def Xx (N:Nat) (s_0:List UInt8) (at_1:Int):Nat→Int→Int→Option (Int×Int)
 | 0,_,_=>none
 | n+1,n122,i123=>
  cond (Q5 .lss i123 4)
  ((Zs N s_0 (wrap .i64 (at_1+i123))).bind fun v125=>
  cond (!v125.2)
  (some (0,0))
  (Xx N s_0 at_1 n (wrap .i64 ((wrap .i64 (64 * n122))+v125.1)) (wrap .i64 (i123+1))))
  (cond (Q5 .lss n122 65536)
  (some (0,0))
  (cond (Q5 .gtr n122 1114111)
  (some (0,0))
  (cond (Q5 .geq n122 55296)
  (cond (Q5 .leq n122 57343)
  (some (0,0))
  (some (n122,4)))
  (some (n122,4)))))
def Xv (N:Nat) (s_0:List UInt8) (at_1:Int):Nat→Int→Int→Option (Int×Int)
 | 0,_,_=>none
 | n+1,n143,i144=>
  cond (Q5 .lss i144 4)
  ((Zs N s_0 (wrap .i64 (at_1+i144))).bind fun v146=>
  cond (!v146.2)
  (some (0,0))
  (Xv N s_0 at_1 n (wrap .i64 ((wrap .i64 (64 * n143))+v146.1)) (wrap .i64 (i144+1))))
  (cond (Q5 .lss n143 65536)
  (some (0,0))
  (cond (Q5 .gtr n143 1114111)
  (some (0,0))
  (cond (Q5 .geq n143 55296)
  (cond (Q5 .leq n143 57343)
  (some (0,0))
  (some (n143,4)))
  (some (n143,4)))))
def Xt (N:Nat) (s_0:List UInt8) (at_1:Int):Option (Int×Int):=
 (idx s_0 at_1).bind fun b1=>
 cond (Q5 .lss (wrap .i64 (b1.toNat:Int)) 128)
 (some ((wrap .i64 (b1.toNat:Int)),1))
 (cond (Q5 .geq (wrap .i64 (b1.toNat:Int)) 192)
 (cond (Q5 .lss (wrap .i64 (b1.toNat:Int)) 224)
 (Z1 N s_0 at_1 N (wrap .i64 ((wrap .i64 (b1.toNat:Int)) - 192)) 1)
 (cond (Q5 .geq (wrap .i64 (b1.toNat:Int)) 224)
 (cond (Q5 .lss (wrap .i64 (b1.toNat:Int)) 240)
 (Z2 N s_0 at_1 N (wrap .i64 ((wrap .i64 (b1.toNat:Int)) - 224)) 1)
 (cond (Q5 .geq (wrap .i64 (b1.toNat:Int)) 240)
 (cond (Q5 .lss (wrap .i64 (b1.toNat:Int)) 248)
 (Z3 N s_0 at_1 N (wrap .i64 ((wrap .i64 (b1.toNat:Int)) - 240)) 1)
 (some (0,0)))
 (some (0,0))))
 (cond (Q5 .geq (wrap .i64 (b1.toNat:Int)) 240)
 (cond (Q5 .lss (wrap .i64 (b1.toNat:Int)) 248)
 (Xy N s_0 at_1 N (wrap .i64 ((wrap .i64 (b1.toNat:Int)) - 240)) 1)
 (some (0,0)))
 (some (0,0)))))
 (cond (Q5 .geq (wrap .i64 (b1.toNat:Int)) 224)
 (cond (Q5 .lss (wrap .i64 (b1.toNat:Int)) 240)
 (Xs N s_0 at_1 N (wrap .i64 ((wrap .i64 (b1.toNat:Int)) - 224)) 1)
 (cond (Q5 .geq (wrap .i64 (b1.toNat:Int)) 240)
 (cond (Q5 .lss (wrap .i64 (b1.toNat:Int)) 248)
 (Xx N s_0 at_1 N (wrap .i64 ((wrap .i64 (b1.toNat:Int)) - 240)) 1)
 (some (0,0)))
 (some (0,0))))
 (cond (Q5 .geq (wrap .i64 (b1.toNat:Int)) 240)
 (cond (Q5 .lss (wrap .i64 (b1.toNat:Int)) 248)
 (Xv N s_0 at_1 N (wrap .i64 ((wrap .i64 (b1.toNat:Int)) - 240)) 1)
 (some (0,0)))
 (some (0,0)))))
theorem Q4t {N} {s_0} {at_1} {r} (h:Xt N s_0 at_1=some r):pU 132 [.str s_0,.int .i64 at_1] (.tuple [.int .i64 r.1,.int .i64 r.2]):=by
 refine Q3 Z2e ?_;unfold Xt at h;rw [cX] at h;refine xB h fun b1 h=>?_;refine iL2 h fun h=>?_;apply iU h<;>intro h
 ·apply iU h<;>intro h
  ·refine lpH (τ:=Int×Int) (fun ⟨n15,i17⟩=>(iS s_0::iI at_1::a4 (iI n15::iI 2::iI 128::iI i17::a16 (a16 (a16 (a16 (a8 (.any :: [])))))):List AV)) (fun n0 ⟨n15,i17⟩=>Z1 N s_0 at_1 n0 n15 i17) ((wrap .i64 ((wrap .i64 (b1.toNat:Int)) - 192)),1) h fun n0 ⟨n15,i17⟩ h=>?_
   first | rw [Z1] at h | simp only [Z1] at h
   rw [cX] at h;apply iU h<;>intro h
   ·refine cP h Yn p2 fun v19 h=>?_;refine iL2 h fun h=>?_;show Exists _;exact ⟨(n0,(wrap .i64 ((wrap .i64 (64 * n15))+v19.1)),(wrap .i64 (i17+1))),h,Lg _,(fun i=>i),Yq⟩
   refine iL2 h fun h=>?_;refine iL2 h fun h=>?_;refine iR2 h fun h=>?_;exact iB2 h
  apply iU h<;>intro h
  ·apply iU h<;>intro h
   ·refine lpH (τ:=Int×Int) (fun ⟨n38,i39⟩=>(iS s_0::iI at_1::a4 (iI n38::iI 3::iI 2048::iI i39::a16 (a16 (a16 (a16 (a8 (.any :: [])))))):List AV)) (fun n1 ⟨n38,i39⟩=>Z2 N s_0 at_1 n1 n38 i39) ((wrap .i64 ((wrap .i64 (b1.toNat:Int)) - 224)),1) h fun n1 ⟨n38,i39⟩ h=>?_
    first | rw [Z2] at h | simp only [Z2] at h
    rw [cX] at h;apply iU h<;>intro h
    ·refine cP h Yn p2 fun v41 h=>?_;refine iL2 h fun h=>?_;show Exists _;exact ⟨(n1,(wrap .i64 ((wrap .i64 (64 * n38))+v41.1)),(wrap .i64 (i39+1))),h,Lg _,(fun i=>i),Yq⟩
    refine iL2 h fun h=>?_;refine iL2 h fun h=>?_;refine iR2 h fun h=>?_;exact iB2 h
   refine iR2 h fun h=>?_;refine iR2 h fun h=>?_;refine lpH (τ:=Int×Int) (fun ⟨n59,i60⟩=>(iS s_0::iI at_1::a4 (iI n59::iI 4::iI 65536::iI i60::a16 (a16 (a16 (a16 (a8 (.any :: [])))))):List AV)) (fun n2 ⟨n59,i60⟩=>Z3 N s_0 at_1 n2 n59 i60) ((wrap .i64 ((wrap .i64 (b1.toNat:Int)) - 240)),1) h fun n2 ⟨n59,i60⟩ h=>?_
   first | rw [Z3] at h | simp only [Z3] at h
   rw [cX] at h;apply iU h<;>intro h
   ·refine cP h Yn p2 fun v62 h=>?_;refine iL2 h fun h=>?_;show Exists _;exact ⟨(n2,(wrap .i64 ((wrap .i64 (64 * n59))+v62.1)),(wrap .i64 (i60+1))),h,Lg _,(fun i=>i),Yq⟩
   refine iL2 h fun h=>?_;refine iL2 h fun h=>?_;refine iR2 h fun h=>?_;exact iB2 h
  refine iR2 h fun h=>?_;refine iR2 h fun h=>?_;refine lpH (τ:=Int×Int) (fun ⟨n80,i81⟩=>(iS s_0::iI at_1::a4 (iI n80::iI 4::iI 65536::iI i81::a16 (a16 (a16 (a16 (a8 (.any :: [])))))):List AV)) (fun n3 ⟨n80,i81⟩=>Xy N s_0 at_1 n3 n80 i81) ((wrap .i64 ((wrap .i64 (b1.toNat:Int)) - 240)),1) h fun n3 ⟨n80,i81⟩ h=>?_
  first | rw [Xy] at h | simp only [Xy] at h
  rw [cX] at h;apply iU h<;>intro h
  ·refine cP h Yn p2 fun v83 h=>?_;refine iL2 h fun h=>?_;show Exists _;exact ⟨(n3,(wrap .i64 ((wrap .i64 (64 * n80))+v83.1)),(wrap .i64 (i81+1))),h,Lg _,(fun i=>i),Yq⟩
  refine iL2 h fun h=>?_;refine iL2 h fun h=>?_;refine iR2 h fun h=>?_;exact iB2 h
 apply iU h<;>intro h
 ·apply iU h<;>intro h
  ·refine lpH (τ:=Int×Int) (fun ⟨n101,i102⟩=>(iS s_0::iI at_1::a4 (iI n101::iI 3::iI 2048::iI i102::a16 (a16 (a16 (a16 (a8 (.any :: [])))))):List AV)) (fun n4 ⟨n101,i102⟩=>Xs N s_0 at_1 n4 n101 i102) ((wrap .i64 ((wrap .i64 (b1.toNat:Int)) - 224)),1) h fun n4 ⟨n101,i102⟩ h=>?_
   first | rw [Xs] at h | simp only [Xs] at h
   rw [cX] at h;apply iU h<;>intro h
   ·refine cP h Yn p2 fun v104 h=>?_;refine iL2 h fun h=>?_;show Exists _;exact ⟨(n4,(wrap .i64 ((wrap .i64 (64 * n101))+v104.1)),(wrap .i64 (i102+1))),h,Lg _,(fun i=>i),Yq⟩
   refine iL2 h fun h=>?_;refine iL2 h fun h=>?_;refine iR2 h fun h=>?_;exact iB2 h
  refine iR2 h fun h=>?_;refine iR2 h fun h=>?_;refine lpH (τ:=Int×Int) (fun ⟨n122,i123⟩=>(iS s_0::iI at_1::a4 (iI n122::iI 4::iI 65536::iI i123::a16 (a16 (a16 (a16 (a8 (.any :: [])))))):List AV)) (fun n5 ⟨n122,i123⟩=>Xx N s_0 at_1 n5 n122 i123) ((wrap .i64 ((wrap .i64 (b1.toNat:Int)) - 240)),1) h fun n5 ⟨n122,i123⟩ h=>?_
  first | rw [Xx] at h | simp only [Xx] at h
  rw [cX] at h;apply iU h<;>intro h
  ·refine cP h Yn p2 fun v125 h=>?_;refine iL2 h fun h=>?_;show Exists _;exact ⟨(n5,(wrap .i64 ((wrap .i64 (64 * n122))+v125.1)),(wrap .i64 (i123+1))),h,Lg _,(fun i=>i),Yq⟩
  refine iL2 h fun h=>?_;refine iL2 h fun h=>?_;refine iR2 h fun h=>?_;exact iB2 h
 refine iR2 h fun h=>?_;refine iR2 h fun h=>?_;refine lpH (τ:=Int×Int) (fun ⟨n143,i144⟩=>(iS s_0::iI at_1::a4 (iI n143::iI 4::iI 65536::iI i144::a16 (a16 (a16 (a16 (a8 (.any :: [])))))):List AV)) (fun n6 ⟨n143,i144⟩=>Xv N s_0 at_1 n6 n143 i144) ((wrap .i64 ((wrap .i64 (b1.toNat:Int)) - 240)),1) h fun n6 ⟨n143,i144⟩ h=>?_
 first | rw [Xv] at h | simp only [Xv] at h
 rw [cX] at h;apply iU h<;>intro h
 ·refine cP h Yn p2 fun v146 h=>?_;refine iL2 h fun h=>?_;show Exists _;exact ⟨(n6,(wrap .i64 ((wrap .i64 (64 * n143))+v146.1)),(wrap .i64 (i144+1))),h,Lg _,(fun i=>i),Yq⟩
 refine iL2 h fun h=>?_;refine iL2 h fun h=>?_;refine iR2 h fun h=>?_;exact iB2 h
def X0 (N:Nat) (s_0:List UInt8):Nat→Int→Option Int
 | 0,_=>none
 | n+1,at12=>
  cond (Q5 .lss at12 (s_0.length:Int))
  ((Xt N s_0 at12).bind fun v14=>
  cond (Q5 .eql v14.2 0)
  (some at12)
  (cond (Q5 .eql v14.1 0)
  (some at12)
  (X0 N s_0 n (wrap .i64 (at12+v14.2)))))
  (some (-1))
def J3 (N:Nat) (s_0:List UInt8):Option Int:=
 X0 N s_0 N 0
theorem Q61 {N} {s_0} {r} (h:J3 N s_0=some r):pU 104 [.str s_0] (.int .i64 r):=by
 refine Q3 Z8n ?_;unfold J3 at h;refine lpH (τ:=Int) (fun at12=>(iS s_0 :: .any :: .any::iI at12::a16 (a4 (a2 ([]))):List AV)) (fun n0 at12=>X0 N s_0 n0 at12) (0) h fun n0 at12 h=>?_
 first | rw [X0] at h | simp only [X0] at h
 rw [cX] at h;refine iR h fun h=>?_;refine cP h Q4t p2 fun v14 h=>?_;refine iL h fun h=>?_;refine iL h fun h=>?_;show Exists _;exact ⟨(n0,(wrap .i64 (at12+v14.2))),h,Lg _,(fun i=>i),Yq⟩
def U8 (N:Nat) (s_0:List UInt8):Option Bool:=
 cond (Q5 .leq (s_0.length:Int) 65535)
 ((J3 N s_0).bind fun v2=>
 some (Q5 .lss v2 0))
 (some false)
theorem Q4i {N} {s_0} {r} (h:U8 N s_0=some r):pU 80 [.str s_0] (.bool r):=by
 refine Q3 k80 ?_;unfold U8 at h;rw [cX] at h;refine iR h fun h=>?_;refine cP h Q61 p1 fun v2 h=>?_;cases h;exact (.p _)
def Xl (N:Nat) (s_0:List UInt8) (c:Int):Nat→Int→Option Bool
 | 0,_=>none
 | n+1,i10=>
  cond (Q5 .lss i10 (s_0.length:Int))
  ((idx s_0 i10).bind fun b12=>
  cond (Q5 .eql (b12.toNat:Int) c)
  (some true)
  (Xl N s_0 c n (wrap .i64 (i10+1))))
  (some false)
def Vw (N:Nat) (s_0:List UInt8) (c:Int):Option Bool:=
 Xl N s_0 c N 0
theorem Q1g {N} {s_0} {c} {r} (h:Vw N s_0 c=some r):pU 81 [.str s_0,.int .u8 c] (.bool r):=by
 refine Q3 k81 ?_;unfold Vw at h;refine lpH (τ:=Int) (fun i10=>(iS s_0 :: .p (.int .u8 c)::a2 (.any::iI i10::a8 (a2 (.any :: []))):List AV)) (fun n0 i10=>Xl N s_0 c n0 i10) (0) h fun n0 i10 h=>?_
 first | rw [Xl] at h | simp only [Xl] at h
 rw [cX] at h;refine iR h fun h=>?_;refine xB h fun b12 h=>?_;refine iL h fun h=>?_;show Exists _;exact ⟨(n0,(wrap .i64 (i10+1))),h,Lg _,(fun i=>i),Yq⟩
def Yy (N:Nat) (s_0:List UInt8):Option Bool:=
 cond (Q0k .neq s_0 [])
 ((U8 N s_0).bind fun v2=>
 cond v2
 ((Vw N s_0 43).bind fun v5=>
 cond (!v5)
 ((Vw N s_0 35).bind fun v8=>
 some (!v8))
 (some false))
 (some false))
 (some false)
theorem Vk {N} {s_0} {r} (h:Yy N s_0=some r):pU 38 [.str s_0] (.bool r):=by
 refine Q3 k38 ?_;unfold Yy at h;rw [cY] at h;refine iR h fun h=>?_;refine cP h Q4i p1 fun v2 h=>?_;refine iR h fun h=>?_;refine cP h Q1g p2 fun v5 h=>?_;refine iR h fun h=>?_;refine cP h Q1g p2 fun v8 h=>?_;cases h;exact (.p _)
def Qh (N:Nat) (client:List UInt8) (name:List UInt8) (v4:(List Zf)×Q2):Nat→Int→Int→Option ((Int×Bool×Int)×Q2)
 | 0,_,_=>none
 | n+1,free27,i28=>
  cond (Q5 .lss i28 ((Q8 Zf.cells v4.1).length:Int))
  ((idx v4.1 i28).bind fun y30=>
  cond (Q0k .eql y30.Name name)
  ((idx v4.1 i28).bind fun y33=>
  some ((y33.ID,false,0),v4.2))
  ((idx v4.1 i28).bind fun y35=>
  cond (Q5 .eql y35.ID free27)
  (Qh N client name v4 n (wrap .i64 (free27+1)) (wrap .i64 (i28+1)))
  (Qh N client name v4 n free27 (wrap .i64 (i28+1)))))
  (cond (Q5 .gtr free27 65534)
  (some ((0,false,12),v4.2))
  ((Wp N v4.1 (⟨free27,name,false⟩:Zf)).bind fun v39=>
  (Ya N v4.2 client v39).bind fun v41=>
  some ((free27,true,0),v41.2)))
def Zk (N:Nat) (r_0:Q2) (client:List UInt8) (name:List UInt8):Option ((Int×Bool×Int)×Q2):=
 (Yy N name).bind fun v1=>
 cond (!v1)
 (some ((0,false,10),r_0))
 ((Zw N r_0 client).bind fun v4=>
 Qh N client name v4 N 1 0)
theorem Q00 {N} {r_0} {client} {name} {r} (h:Zk N r_0 client name=some r):Qov Tryz.prog G1 26 (Q2.cells r_0) [.str client,.str name] (.tuple [.int .i64 r.1.1,.bool r.1.2.1,.int .i64 r.1.2.2]) (Q2.cells r.2):=by
 refine Q4f k26 ?_;unfold Zk at h;refine cP h Vk p1 fun v1 h=>?_;apply iU h<;>intro h
 ·obtain rfl:=Qt h;exact ⟨_,_,rfl,p1,u3⟩
 refine cM h U1 rfl p1 fun v4 h=>?_;refine lpH (τ:=Int×Int) (fun ⟨free27,i28⟩=>(.ptr 0 0::iS client::iS name::a4 (a2 (.p (.slice 3 (Q8 Zf.cells v4.1))::iI free27::iI i28::a16 (a16 (a8 (a4 ([])))))):List AV)) (fun n0 ⟨free27,i28⟩=>Qh N client name v4 n0 free27 i28) (1,0) h fun n0 ⟨free27,i28⟩ h=>?_
 first | rw [Qh] at h | simp only [Qh] at h
 rw [cX,cY] at h;apply iU h<;>intro h
 ·refine xR h fun y30 h=>?_;apply iU h<;>intro h
  ·refine xR h fun y33 h=>?_;obtain rfl:=Qt h;exact ⟨_,_,rfl,p1,u3⟩
  refine xR h fun y35 h=>?_;apply iU h<;>intro h
  ·show Exists _;exact ⟨(n0,(wrap .i64 (free27+1)),(wrap .i64 (i28+1))),h,Lg _,(fun i=>i),Yq⟩
  show Exists _;exact ⟨(n0,free27,(wrap .i64 (i28+1))),h,Lg _,(fun i=>i),Yq⟩
 apply iU h<;>intro h
 ·obtain rfl:=Qt h;exact ⟨_,_,rfl,p1,u3⟩
 refine cP h Q1i (.cons (.p _) (.cons (Ar p3) .nil)) fun v39 h=>?_;refine cM h Uu rfl p2 fun v41 h=>?_;obtain rfl:=Qt h;exact ⟨_,_,rfl,p1,u3⟩
def Jy (N:Nat) (R:Reg) (c n:List UInt8) (id:Int):Option (Int×Reg):=(Yx N n).bind fun b=>some (Qsp b R c n id)
theorem Q9d {N R c n id r} (h:Jy N R c n id=some r):Q3x Tryz.prog G1 27 R [.str c,.str n,.int .i64 id] (.int .i64 r.1) r.2:=by
 obtain ⟨b,hb,h⟩:=Q0m h;cases h;exact Qv8 (Xn hb)
def Qn (N:Nat) (client:List UInt8) (name:List UInt8) (id:Int) (v6:(List Zf)×Q2):Nat→Int→Option ((Int)×Q2)
 | 0,_=>none
 | n+1,i37=>
  cond (Q5 .lss i37 ((Q8 Zf.cells v6.1).length:Int))
  ((idx v6.1 i37).bind fun y39=>
  cond (Q5 .eql y39.ID id)
  (some (16,v6.2))
  ((idx v6.1 i37).bind fun y42=>
  cond (Q0k .eql y42.Name name)
  (some (16,v6.2))
  (Qn N client name id v6 n (wrap .i64 (i37+1)))))
  ((Wp N v6.1 (⟨id,name,true⟩:Zf)).bind fun v45=>
  (Ya N v6.2 client v45).bind fun v47=>
  some (0,v47.2))
def Qu (N:Nat) (client:List UInt8) (name:List UInt8) (id:Int) (v6:(List Zf)×Q2):Nat→Int→Option ((Int)×Q2)
 | 0,_=>none
 | n+1,i17=>
  cond (Q5 .lss i17 ((Q8 Zf.cells v6.1).length:Int))
  ((idx v6.1 i17).bind fun y19=>
  cond (((y19.ID:Int) == id)&&(((y19.Name:List UInt8) == name)&&(((y19.Fixed:Bool) == true)&&true)))
  (some (0,v6.2))
  (Qu N client name id v6 n (wrap .i64 (i17+1))))
  (Qn N client name id v6 N 0)
def Zh (N:Nat) (r_0:Q2) (client:List UInt8) (name:List UInt8) (id:Int):Option ((Int)×Q2):=
 (Yy N name).bind fun v1=>
 cond (!v1)
 (some (10,r_0))
 (cond (Q5 .lss id 1)
 (some (2,r_0))
 (cond (Q5 .gtr id 65534)
 (some (2,r_0))
 ((Zw N r_0 client).bind fun v6=>
 Qu N client name id v6 N 0)))
theorem Gr {N} {r_0} {client} {name} {id} {r} (h:Zh N r_0 client name id=some r):Qov Tryz.prog G1 28 (Q2.cells r_0) [.str client,.str name,.int .i64 id] (.int .i64 r.1) (Q2.cells r.2):=by
 refine Q4f k28 ?_;unfold Zh at h;rw [cX] at h;refine cP h Vk p1 fun v1 h=>?_;apply iU h<;>intro h
 ·obtain rfl:=Qt h;exact ⟨_,_,rfl,p1,(.p _)⟩
 apply iU h<;>intro h
 ·obtain rfl:=Qt h;exact ⟨_,_,rfl,p1,(.p _)⟩
 apply iU h<;>intro h
 ·obtain rfl:=Qt h;exact ⟨_,_,rfl,p1,(.p _)⟩
 refine cM h U1 rfl p1 fun v6 h=>?_;refine lpH (τ:=Int) (fun i17=>(.ptr 0 0::iS client::iS name::iI id::a4 (.any :: .p (.slice 3 (Q8 Zf.cells v6.1)) :: .ptr 1 0::iI i17::a16 (a16 (a16 (a8 (a2 ([])))))):List AV)) (fun n0 i17=>Qu N client name id v6 n0 i17) (0) h fun n0 i17 h=>?_
 first | rw [Qu] at h | simp only [Qu] at h
 rw [cX] at h;apply iU h<;>intro h
 ·refine Qi ?_;refine xR h fun y19 h=>?_;apply iU h<;>intro h
  ·obtain rfl:=Qt h;exact ⟨_,_,rfl,p1,(.p _)⟩
  show Exists _;exact ⟨(n0,(wrap .i64 (i17+1))),h,Lg _,(fun i=>i),Yq⟩
 refine lpH (τ:=Int) (fun i37=>(.ptr 0 0::iS client::iS name::iI id::a4 (.any :: .p (.slice 3 (Q8 Zf.cells v6.1)) :: .ptr 1 0 :: .any::iI i37::a16 (a16 (a16 (a8 (.any :: []))))):List AV)) (fun n1 i37=>Qn N client name id v6 n1 i37) (0) h fun n1 i37 h=>?_
 first | rw [Qn] at h | simp only [Qn] at h
 rw [cX,cY] at h;apply iU h<;>intro h
 ·refine xR h fun y39 h=>?_;apply iU h<;>intro h
  ·obtain rfl:=Qt h;exact ⟨_,_,rfl,p1,(.p _)⟩
  refine xR h fun y42 h=>?_;apply iU h<;>intro h
  ·obtain rfl:=Qt h;exact ⟨_,_,rfl,p1,(.p _)⟩
  show Exists _;exact ⟨(n1,(wrap .i64 (i37+1))),h,Lg _,(fun i=>i),Yq⟩
 refine cP h Q1i (.cons (.p _) (.cons (Ar p3) .nil)) fun v45 h=>?_;refine cM h Uu rfl p2 fun v47 h=>?_;obtain rfl:=Qt h;exact ⟨_,_,rfl,p1,(.p _)⟩
def Q3i (N:Nat) (p:Qp):Option (Qp):=
 (Q5c N p.Codes).bind fun v1=>
 (Q20 N p.Filters).bind fun v3=>
 (Q0g N p.Props).bind fun v5=>
 (Q0g N p.Will.Props).bind fun v7=>
 some (⟨p.Kind,p.Dup,p.Retain,p.QoS,p.ID,p.Topic,p.Payload,p.Clean,p.KeepAlive,p.Client,p.HasUser,p.User,p.HasPass,p.Pass,p.HasWill,(⟨p.Will.Topic,p.Will.Payload,p.Will.QoS,p.Will.Retain,v7⟩:U5),p.Session,p.Code,v1,v3,v5⟩:Qp)
theorem Qef {N} {p} {r} (h:Q3i N p=some r):pU 74 [.agg (Qp.cells p)] (.agg (Qp.cells r)):=by
 refine Q3 k74 ?_;unfold Q3i at h;refine Qi ?_;refine dcO h Qcf [2] (fun v1 => .slice 1 2 0 v1.length) (rE rfl <| rN) fun v1 h=>?_;refine dcO h Q99 [3] (fun v3 => .slice 5 3 0 v3.length) (rE rfl <| rN) fun v3 h=>?_;refine Qi ?_;refine dcO h Q2e [4] (fun v5 => .slice 4 4 0 v5.length) (rE rfl <| rN) fun v5 h=>?_;refine dcO h Q2e [5] (fun v7 => .slice 4 5 0 v7.length) (rE rfl <| rN) fun v7 h=>?_;obtain rfl:=Qt h;exact (Ar (Yo (f2_ (f1_ (.cons (frz_own (c:=Z8.cells) (l:=(v7:List Z8)) (fun _=>rfl) rfl trivial sd) (f2_ (.cons (frz_own (c:=(cI .i64)) (l:=(v1:List Int)) (fun _=>rfl) rfl trivial sd) (.cons (frz_own (c:=Qx.cells) (l:=(v3:List Qx)) (fun _=>rfl) rfl trivial sd) (.cons (frz_own (c:=Z8.cells) (l:=(v5:List Z8)) (fun _=>rfl) rfl trivial sd) .nil)))))))))
def U7 (rz:Q0→Option Q0) (N:Nat) (v:Q0):Nat→Int→(List Q0)→Option Q0
 | 0,_,_=>none
 | n+1,s14,l15=>
  cond (Q5 .lss s14 ((Q0.rows v.Items).length:Int))
  ((idx v.Items s14).bind fun y17=>
  (rz y17).bind fun v19=>
  cond (Nat.ble ((l15.length+1+4096) * 56) 17592186044416) (U7 rz N v n (wrap .i64 (s14+1)) (l15 ++ [v19])) none)
  (some (⟨v.Kind,v.N',v.Text,l15⟩:Q0))
def Q3p (rz:Q0→Option Q0) (N:Nat) (v:Q0):Option Q0:=
 U7 rz N v N 0 []
theorem Q90 {rz:Q0→Option Q0} (hy1:∀ {v} {r},rz v=some r→pU 75 [.agg (Q0.cells v)] (.agg (Q0.cells r))) {N} {v} {r} (h:Q3p rz N v=some r):pU 75 [.agg (Q0.cells v)] (.agg (Q0.cells r)):=by
 refine Q3 k75 ?_;unfold Q3p at h;refine lpA (τ:=Int×(List Q0)) (fun ⟨s14,_⟩=>(.any :: .any :: .ptr 1 0 :: .ptr 2 0::a8 (a2 (.p (.slice 4 (Q0.rows v.Items))::iI ((Q0.rows v.Items).length:Int)::iI s14::a8 (a4 ([])))):List AV)) (fun ⟨_,l15⟩=>(.cells (iI v.Kind::iW v.N'::iS v.Text :: .p (.slice 4 (Q0.rows v.Items)) :: []) :: .cells (iI 0::iW 0::iS [] :: .p .nilSlice :: []) :: .cells (iI v.Kind::iW v.N'::iS v.Text :: .slice 4 3 0 l15.length :: []) :: .cells (Wt Q0.cells l15) :: []:List AObj)) (fun n0 ⟨s14,l15⟩=>U7 rz N v n0 s14 l15) (0,[]) h fun n0 ⟨s14,l15⟩ h=>?_
 first | rw [U7] at h | simp only [U7] at h
 rw [cX] at h;apply iU h<;>intro h
 ·refine Q0.xR h fun y17 h=>?_;refine Qi ?_;refine cD h hy1 (.cons q4 .nil) fun v19 h=>?_;obtain ⟨hk21,h⟩:=Q66 h;refine Q37 (Xo (c:=Q0.cells) (e:=4) (fun _=>rfl) sd hk21) ?_;refine J2 (c:=Q0.cells) [v19] rfl ?_;show Exists _;exact ⟨(n0,(wrap .i64 (s14+1)),(l15 ++ [v19])),h,Lg _,(rho [0,1,2,6]),Yq⟩
 obtain rfl:=Qt h;exact (Ar (f2_ (f1_ (.cons (Q0.frz_own (l:=l15) rfl trivial sd) .nil))))
def Q0z:Nat→Q0→Option Q0
 | 0=>fun _=>none
 | N+1=>Q3p (Q0z N) N
theorem Q9h {N} {v} {r} (h:Q0z N v=some r):pU 75 [.agg (Q0.cells v)] (.agg (Q0.cells r)):=by
 induction N generalizing v r with
 | zero=>simp [Q0z] at h
 | succ N ih=>exact Q90 (fun h=>ih h) h
def G8 (N:Nat) (e:Qa) (v1:List Z8) (v3:List Wz) (v5:Qp):Nat→Int→(List Q0)→Option Qa
 | 0,_,_=>none
 | n+1,s20,l21=>
  cond (Q5 .lss s20 ((Q0.rows e.Frame.Values).length:Int))
  ((idx e.Frame.Values s20).bind fun y23=>
  (Q0z N y23).bind fun v25=>
  cond (Nat.ble ((l21.length+1+4096) * 56) 17592186044416) (G8 N e v1 v3 v5 n (wrap .i64 (s20+1)) (l21 ++ [v25])) none)
  (some (⟨e.Proto,e.Kind,e.Topic,e.Payload,e.QoS,e.Retain,e.Dup,e.ID,v1,e.Type',v3,e.Channel,v5,e.Msg,(⟨e.Frame.Type',e.Frame.Channel,e.Frame.Ext,l21⟩:Zg)⟩:Qa))
def Wu (N:Nat) (e:Qa):Option Qa:=
 (Q0g N e.Props).bind fun v1=>
 (Q06 N e.Hops).bind fun v3=>
 (Q3i N e.Packet).bind fun v5=>
 G8 N e v1 v3 v5 N 0 []
theorem Q12 {N} {e} {r} (h:Wu N e=some r):pU 32 [.agg (Qa.cells e)] (.agg (Qa.cells r)):=by
 refine Q3 k32 ?_;unfold Wu at h;refine cO h Q2e (fun v1 => .slice 4 3 0 v1.length) (rE rfl <| rN) fun v1 h=>?_;refine cO h Q6m (fun v3 => .slice 2 4 0 v3.length) (rE rfl <| rN) fun v3 h=>?_;refine cP h Qef (.cons (Ar (Yo (f2_ (f1_ (.cons (.p _) p5))))) .nil) fun v5 h=>?_;refine lpA (τ:=Int×(List Q0)) (fun ⟨s20,_⟩=>(.any :: .any :: .ptr 1 0 :: .ptr 2 0::a16 (a2 (.any :: .p (.slice 4 (Q0.rows e.Frame.Values))::iI ((Q0.rows e.Frame.Values).length:Int)::iI s20::a8 (a4 (a2 ([]))))):List AV)) (fun ⟨_,l21⟩=>(.cells (Q18 e ([])) :: .cells (iI 0::iI 0::iS []::iS []::iI 0 :: .p (.bool false) :: .p (.bool false)::iI 0 :: .p .nilSlice::iI 0 :: .p .nilSlice::iI 0::iI 0 :: .p (.bool false) :: .p (.bool false)::iI 0::iI 0::iS []::iS [] :: .p (.bool false)::iI 0::iS [] :: .p (.bool false)::iS [] :: .p (.bool false)::iS [] :: .p (.bool false)::iS []::iS []::iI 0 :: .p (.bool false) :: .p .nilSlice :: .p (.bool false)::iI 0 :: .p .nilSlice :: .p .nilSlice :: .p .nilSlice::iI 0 :: .p (.bool false)::iI 0 :: .p (.bool false) :: .p (.bool false) :: .p (.bool false)::iI 0::iI 0::iI 0::iI 0 :: .p (.bool false)::iI 0::iI 0::iI 0::iS []::iS []::iI 0::iI 0::iS [] :: .p .nilSlice :: []) :: .cells (iI e.Proto::iI e.Kind::iS e.Topic::iS e.Payload::iI e.QoS :: .p (.bool e.Retain) :: .p (.bool e.Dup)::iI e.ID :: .slice 4 3 0 v1.length::iI e.Type' :: .slice 2 4 0 v3.length::iI e.Channel::Qry v5 (Qfh e.Msg (iI e.Frame.Type'::iI e.Frame.Channel::iS e.Frame.Ext :: .slice 4 5 0 l21.length :: []))) :: .cells (Wt Z8.cells v1) :: .cells (Wt Wz.cells v3) :: .cells (Wt Q0.cells l21) :: []:List AObj)) (fun n0 ⟨s20,l21⟩=>G8 N e v1 v3 v5 n0 s20 l21) (0,[]) h fun n0 ⟨s20,l21⟩ h=>?_
 first | rw [G8] at h | simp only [G8] at h
 rw [cX] at h;apply iU h<;>intro h
 ·refine Q0.xR h fun y23 h=>?_;refine Qi ?_;refine cD h Q9h (.cons q4 .nil) fun v25 h=>?_;obtain ⟨hk27,h⟩:=Q66 h;refine Q37 (Xo (c:=Q0.cells) (e:=4) (fun _=>rfl) sd hk27) ?_;refine J2 (c:=Q0.cells) [v25] rfl ?_;show Exists _;exact ⟨(n0,(wrap .i64 (s20+1)),(l21 ++ [v25])),h,Lg _,(rho [0,1,2,3,4,8]),Yq⟩
 obtain rfl:=Qt h;exact (Ar (f8_ (.cons (frz_own (c:=Z8.cells) (l:=(v1:List Z8)) (fun _=>rfl) rfl trivial sd) (.cons (.p _) (.cons (frz_own (c:=Wz.cells) (l:=(v3:List Wz)) (fun _=>rfl) rfl trivial sd) (Yo (Yo (f8_ (f4_ (f1_ (.cons (Q0.frz_own (l:=l21) rfl trivial sd) .nil)))))))))))
def Qbq (_N:Nat) (R:Reg) (c n:List UInt8):Option ((Int×Int)×Reg):=some (rID R c n,R)
theorem Q8g {N R c n r} (h:Qbq N R c n=some r):Q3x Tryz.prog G1 17 R [.str c,.str n] (.tuple [.int .i64 r.1.1,.int .i64 r.1.2]) r.2:=by cases h;exact Qz0
def Q5m (_N:Nat) (R:Reg) (c:List UInt8) (id:Int):Option (Bool×Reg):=some (Q9b R c id,R)
theorem Q48 {N R c id r} (h:Q5m N R c id=some r):Q3x Tryz.prog G1 54 R [.str c,.int .i64 id] (.bool r.1) r.2:=by cases h;exact Qpd
def Gs (N:Nat) (s_0:List UInt8):Nat→Int→Int→Option Int
 | 0,_,_=>none
 | n+1,n12,s13=>
  cond (Q5 .lss s13 (((s_0.take s_0.length).drop ((wrap .i64 ((s_0.length:Int) - 8)).toNat)).length:Int))
  ((idx ((s_0.take s_0.length).drop ((wrap .i64 ((s_0.length:Int) - 8)).toNat)) s13).bind fun b15=>
  Gs N s_0 n (orI .u64 (Qh7 .u64 n12 8) (wrap .u64 (b15.toNat:Int))) (wrap .i64 (s13+1)))
  (some n12)
def Gt (N:Nat) (s_0:List UInt8):Nat→Int→Int→Option Int
 | 0,_,_=>none
 | n+1,n25,s26=>
  cond (Q5 .lss s26 (s_0.length:Int))
  ((idx s_0 s26).bind fun b28=>
  Gt N s_0 n (orI .u64 (Qh7 .u64 n25 8) (wrap .u64 (b28.toNat:Int))) (wrap .i64 (s26+1)))
  (some n25)
def Q04 (N:Nat) (s_0:List UInt8):Option Int:=
 cond (Q5 .gtr (s_0.length:Int) 8)
 (cond (decide (0≤(wrap .i64 ((s_0.length:Int) - 8)))) (cond (Nat.ble (wrap .i64 ((s_0.length:Int) - 8)).toNat s_0.length&&Nat.ble s_0.length s_0.length) (Gs N s_0 N 0 0) none) none)
 (Gt N s_0 N 0 0)
theorem Q1x {N} {s_0} {r} (h:Q04 N s_0=some r):pU 119 [.str s_0] (.int .u64 r):=by
 refine Q3 Z3q ?_;unfold Q04 at h;rw [cX] at h;apply iU h<;>intro h
 ·refine kU h fun h=>?_;refine kU h fun h=>?_;refine lpH (τ:=Int×Int) (fun ⟨n12,s13⟩=>(.p (.str ((s_0.take s_0.length).drop ((wrap .i64 ((s_0.length:Int) - 8)).toNat))) :: .any :: .any::iW n12::a8 (a2 (.p (.int .i64 (((s_0.take s_0.length).drop ((wrap .i64 ((s_0.length:Int) - 8)).toNat)).length:Int))::iI s13::a8 (a2 (.any :: [])))):List AV)) (fun n0 ⟨n12,s13⟩=>Gs N s_0 n0 n12 s13) (0,0) h fun n0 ⟨n12,s13⟩ h=>?_
  first | rw [Gs] at h | simp only [Gs] at h
  rw [cX] at h;refine iR h fun h=>?_;refine xB h fun b15 h=>?_;show Exists _;exact ⟨(n0,(orI .u64 (Qh7 .u64 n12 8) (wrap .u64 (b15.toNat:Int))),(wrap .i64 (s13+1))),h,Lg _,(fun i=>i),Yq⟩
 refine lpH (τ:=Int×Int) (fun ⟨n25,s26⟩=>(iS s_0 :: .any :: .any::iW n25::a8 (a2 (iI (s_0.length:Int)::iI s26::a8 (a2 (.any :: [])))):List AV)) (fun n1 ⟨n25,s26⟩=>Gt N s_0 n1 n25 s26) (0,0) h fun n1 ⟨n25,s26⟩ h=>?_
 first | rw [Gt] at h | simp only [Gt] at h
 rw [cX] at h;refine iR h fun h=>?_;refine xB h fun b28 h=>?_;show Exists _;exact ⟨(n1,(orI .u64 (Qh7 .u64 n25 8) (wrap .u64 (b28.toNat:Int))),(wrap .i64 (s26+1))),h,Lg _,(fun i=>i),Yq⟩
def Q1c (N:Nat) (name:List UInt8):Option (Int×Bool):=
 cond (Q5 .neq (name.length:Int) 2)
 (some (0,false))
 ((Yx N name).bind fun v2=>
 cond (!v2)
 (some (0,false))
 ((Q04 N name).bind fun v5=>
 some ((wrap .i64 v5),true)))
theorem Q5u {N} {name} {r} (h:Q1c N name=some r):pU 97 [.str name] (.tuple [.int .i64 r.1,.bool r.2]):=by
 refine Q3 k97 ?_;unfold Q1c at h;rw [cX] at h;refine iL2 h fun h=>?_;refine cP h Xn p1 fun v2 h=>?_;refine iL2 h fun h=>?_;refine cP h Q1x p1 fun v5 h=>?_;obtain rfl:=Qt h;exact u2
def Gi (N:Nat) (a:Q14) (name:List UInt8):Option (Int×Bool):=
 (Q1c N name).bind fun v1=>
 some (v1.1,v1.2)
theorem Q7l {N} {a} {name} {r} (h:Gi N a name=some r):pU 465 [.agg (Q14.cells a),.str name] (.tuple [.int .i64 r.1,.bool r.2]):=by
 refine Q3 Z3o ?_;unfold Gi at h;refine cP h Q5u p1 fun v1 h=>?_;obtain rfl:=Qt h;exact u2
def Q2t (_N:Nat) (l:Xd):Option Bool:=
 cond (Q5 .geq l.MaxPacket 16)
 (cond (Q5 .leq l.MaxPacket 1048576)
 (cond (Q5 .geq l.MaxDepth 0)
 (some (Q5 .leq l.MaxDepth 32))
 (some false))
 (some false))
 (some false)
theorem Qb7 {N} {l} {r} (h:Q2t N l=some r):pU 116 [.agg (Xd.cells l)] (.bool r):=by
 refine Q3 Z9a ?_;unfold Q2t at h;rw [cX] at h;refine iR h fun h=>?_;refine iR h fun h=>?_;exact iB h
def W6 (rv:Q0→Q0→Option Bool) (N:Nat) (a:Q0) (b:Q0):Nat→Int→Option Bool
 | 0,_=>none
 | n+1,s22=>
  cond (Q5 .lss s22 ((Q0.rows a.Items).length:Int))
  ((idx a.Items s22).bind fun y24=>
  (idx b.Items s22).bind fun y26=>
  (rv y24 y26).bind fun v28=>
  cond (!v28)
  (some false)
  (W6 rv N a b n (wrap .i64 (s22+1))))
  (some true)
def Q0v (rv:Q0→Q0→Option Bool) (N:Nat) (a:Q0) (b:Q0):Option Bool:=
 cond (Q5 .neq a.Kind b.Kind)
 (some false)
 (cond (Q5 .neq a.N' b.N')
 (some false)
 (cond (Q0k .neq a.Text b.Text)
 (some false)
 (cond (Q5 .neq ((Q0.rows a.Items).length:Int) ((Q0.rows b.Items).length:Int))
 (some false)
 (W6 rv N a b N 0))))
theorem Q9a {rv:Q0→Q0→Option Bool} (hx1:∀ {a} {b} {r},rv a b=some r→pU 125 [.agg (Q0.cells a),.agg (Q0.cells b)] (.bool r)) {N} {a} {b} {r} (h:Q0v rv N a b=some r):pU 125 [.agg (Q0.cells a),.agg (Q0.cells b)] (.bool r):=by
 refine Q3 Z58 ?_;unfold Q0v at h;rw [cX,cY] at h;refine iL h fun h=>?_;refine iL h fun h=>?_;refine iL h fun h=>?_;refine iL h fun h=>?_;refine lpH (τ:=Int) (fun s22=>(.any :: .any :: .ptr 0 0 :: .ptr 1 0::a16 (a16 (iI ((Q0.rows a.Items).length:Int)::iI s22::a8 (a4 (a2 (.any :: []))))):List AV)) (fun n0 s22=>W6 rv N a b n0 s22) (0) h fun n0 s22 h=>?_
 first | rw [W6] at h | simp only [W6] at h
 rw [cX] at h;refine iR h fun h=>?_;refine Qi ?_;refine Q0.xR h fun y24 h=>?_;refine Q0.xR h fun y26 h=>?_;refine cD h hx1 (.cons q4 (.cons q4 .nil)) fun v28 h=>?_;refine iL h fun h=>?_;show Exists _;exact ⟨(n0,(wrap .i64 (s22+1))),h,Lg _,(fun i=>i),Yq⟩
def Vq:Nat→Q0→Q0→Option Bool
 | 0=>fun _ _=>none
 | N+1=>Q0v (Vq N) N
theorem Q96 {N} {a} {b} {r} (h:Vq N a b=some r):pU 125 [.agg (Q0.cells a),.agg (Q0.cells b)] (.bool r):=by
 induction N generalizing a b r with
 | zero=>simp [Vq] at h
 | succ N ih=>exact Q9a (fun h=>ih h) h
def X3 (N:Nat) (a:Zg) (b:Zg):Nat→Int→Option Bool
 | 0,_=>none
 | n+1,s22=>
  cond (Q5 .lss s22 ((Q0.rows a.Values).length:Int))
  ((idx a.Values s22).bind fun y24=>
  (idx b.Values s22).bind fun y26=>
  (Vq N y24 y26).bind fun v28=>
  cond (!v28)
  (some false)
  (X3 N a b n (wrap .i64 (s22+1))))
  (some true)
def Ga (N:Nat) (a:Zg) (b:Zg):Option Bool:=
 cond (Q5 .neq a.Type' b.Type')
 (some false)
 (cond (Q5 .neq a.Channel b.Channel)
 (some false)
 (cond (Q0k .neq a.Ext b.Ext)
 (some false)
 (cond (Q5 .neq ((Q0.rows a.Values).length:Int) ((Q0.rows b.Values).length:Int))
 (some false)
 (X3 N a b N 0))))
theorem Q8q {N} {a} {b} {r} (h:Ga N a b=some r):pU 100 [.agg (Zg.cells a),.agg (Zg.cells b)] (.bool r):=by
 refine Q3 Z5u ?_;unfold Ga at h;rw [cX,cY] at h;refine iL h fun h=>?_;refine iL h fun h=>?_;refine iL h fun h=>?_;refine iL h fun h=>?_;refine lpH (τ:=Int) (fun s22=>(a2 (.any :: .ptr 1 0::a16 (a16 (.p (.slice 4 (Q0.rows a.Values))::iI ((Q0.rows a.Values).length:Int)::iI s22::a8 (a4 (.any :: []))))):List AV)) (fun n0 s22=>X3 N a b n0 s22) (0) h fun n0 s22 h=>?_
 first | rw [X3] at h | simp only [X3] at h
 rw [cX] at h;refine iR h fun h=>?_;refine Q0.xR h fun y24 h=>?_;refine Qi ?_;refine Q0.xR h fun y26 h=>?_;refine cD h Q96 (.cons q4 (.cons q4 .nil)) fun v28 h=>?_;refine iL h fun h=>?_;show Exists _;exact ⟨(n0,(wrap .i64 (s22+1))),h,Lg _,(fun i=>i),Yq⟩
def Q3v (_N:Nat) (p:Qp):Option (Q4d):=
 some (⟨p.Kind,p.QoS,p.ID,p.KeepAlive,p.Code,p.Dup,p.Retain,p.Clean,p.HasUser,p.HasPass,p.HasWill,p.Session,p.Topic,p.Payload,p.Client,p.User,p.Pass⟩:Q4d)
theorem Q6b {N} {p} {r} (h:Q3v N p=some r):pU 120 [.agg (Qp.cells p)] (.agg (Q4d.cells r)):=by
 refine Q3 Z2y ?_;unfold Q3v at h;obtain rfl:=Qt h;exact (Ar (f8_ (f2_ (f1_ (.cons (.p _) p5)))))
def Jw (_N:Nat) (a:Z8) (b:Z8):Option Bool:=
 some (((a.ID:Int) == b.ID)&&(((a.N':Int) == b.N')&&(((a.Text:List UInt8) == b.Text)&&(((a.Value:List UInt8) == b.Value)&&true))))
theorem Q4r {N} {a} {b} {r} (h:Jw N a b=some r):pU 164 [.agg (Z8.cells a),.agg (Z8.cells b)] (.bool r):=by
 refine Q3 Z38 ?_;unfold Jw at h;cases h;exact (.p _)
def Xe (N:Nat) (a:List Z8) (b:List Z8):Nat→Int→Option Bool
 | 0,_=>none
 | n+1,s19=>
  cond (Q5 .lss s19 ((Q8 Z8.cells a).length:Int))
  ((idx a s19).bind fun y21=>
  (idx b s19).bind fun y23=>
  (Jw N y21 y23).bind fun v25=>
  cond (!v25)
  (some false)
  (Xe N a b n (wrap .i64 (s19+1))))
  (some true)
def Wa (N:Nat) (a:List Z8) (b:List Z8):Option Bool:=
 cond (Q5 .neq ((Q8 Z8.cells a).length:Int) ((Q8 Z8.cells b).length:Int))
 (some false)
 (Xe N a b N 0)
theorem Q10 {N} {a} {b} {r} (h:Wa N a b=some r):pU 124 [.slice 4 (Q8 Z8.cells a),.slice 4 (Q8 Z8.cells b)] (.bool r):=by
 refine Q3 Zan ?_;unfold Wa at h;rw [cX] at h;refine Qe Z2d ?_;refine iL h fun h=>?_;refine lpH (τ:=Int) (fun s19=>(.any :: .p (.slice 4 (Q8 Z8.cells b)) :: .p (.func (.func 164) [] [])::a8 (a4 (.p (.slice 4 (Q8 Z8.cells a))::iI ((Q8 Z8.cells a).length:Int)::iI s19::a8 (a4 (a2 ([]))))):List AV)) (fun n0 s19=>Xe N a b n0 s19) (0) h fun n0 s19 h=>?_
 first | rw [Xe] at h | simp only [Xe] at h
 rw [cX] at h;refine iR h fun h=>?_;refine xR h fun y21 h=>?_;refine xR h fun y23 h=>?_;refine cP h Q4r (.cons q4 (.cons q4 .nil)) fun v25 h=>?_;refine iL h fun h=>?_;show Exists _;exact ⟨(n0,(wrap .i64 (s19+1))),h,Lg _,(fun i=>i),Yq⟩
def G4 (N:Nat) (a:U5) (b:U5):Option Bool:=
 cond (Q0k .eql a.Topic b.Topic)
 (cond (Q0k .eql a.Payload b.Payload)
 (cond (Q5 .eql a.QoS b.QoS)
 (cond (a.Retain == b.Retain)
 ((Wa N a.Props b.Props).bind fun v5=>
 some v5)
 (some false))
 (some false))
 (some false))
 (some false)
theorem Q8z {N} {a} {b} {r} (h:G4 N a b=some r):pU 121 [.agg (U5.cells a),.agg (U5.cells b)] (.bool r):=by
 refine Q3 Zb7 ?_;unfold G4 at h;rw [cX,cY] at h;refine iR h fun h=>?_;refine iR h fun h=>?_;refine iR h fun h=>?_;refine iR h fun h=>?_;refine cP h Q10 p2 fun v5 h=>?_;cases h;exact (.p _)
def Q2l (_N:Nat) (a:Int) (b:Int):Option Bool:=
 some (Q5 .eql a b)
theorem Q85 {N} {a} {b} {r} (h:Q2l N a b=some r):pU 160 [.int .i64 a,.int .i64 b] (.bool r):=by
 refine Q3 Zae ?_;unfold Q2l at h;rw [cX] at h;cases h;exact (.p _)
end
end
end Go.Av
