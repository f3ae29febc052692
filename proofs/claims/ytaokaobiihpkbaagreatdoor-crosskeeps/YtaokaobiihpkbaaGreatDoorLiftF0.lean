/- Part of the proof of CrossKeeps: for every input the law returns true; no condition. -/
import Derived.Test.YtaokaobiihpkbaaGreatDoorLiftTy
import Derived.Test.YtaokaobiihpkbaaGreatDoorChks
import Derived.Test.YtaokaobiihpkbaaGreatDoorSeat1
import Derived.Test.YtaokaobiihpkbaaGreatDoorRound
import Derived.Test.YtaokaobiihpkbaaGreatDoorC16of
import Derived.Test.YtaokaobiihpkbaaGreatDoorAvAbb
import Derived.KernelRfl
import Derived.Test.YtaokaobiihpkbaaGreatDoorRegT
import Derived.Test.YtaokaobiihpkbaaGreatDoorRegS
import Derived.Test.YtaokaobiihpkbaaGreatDoorClosed5
set_option linter.all false
open Go.IntKind (wrap)
namespace Go.Av
noncomputable section
open Go.Proofs
set_option maxRecDepth 100000
set_option maxHeartbeats 4000000
attribute [local irreducible] Xu Qw Q8g Q7d Qru Qrc Qi6
section
abbrev pU:=Q8t Tryz.prog G1
abbrev gU:=GC Tryz.prog G1
def Q2w (_N:Nat):Option Bool:=some true
theorem Q56 {N r} (h:Q2w N=some r):pU 6 [] (.bool r):=by cases h;exact Qk2 Qjr (N:=4000) (d:=60) (by kernel_rfl)
def Yk (N:Nat) (l:List Qe):Nat→Int→Option Bool
 | 0,_=>none
 | n+1,i17=>
  cond (Q4 .lss i17 ((Q8 Qe.cells l).length:Int))
  ((idx l i17).bind fun y19=>
  cond (Q4 .gtr (y19.Client.length:Int) 100)
  (some false)
  ((idx l i17).bind fun y22=>
  cond (Q4 .gtr (y22.Name.length:Int) 200)
  (some false)
  (Yk N l n (wrap .i64 (i17+1)))))
  (some (Q4 .leq ((Q8 Qe.cells l).length:Int) 20))
def J0 (N:Nat) (l:List Qe):Option Bool:=
 Yk N l N 0
theorem Q51 {N} {l} {r} (h:J0 N l=some r):pU 7 [.slice 3 (Q8 Qe.cells l)] (.bool r):=by
 refine Q2 k7 ?_;unfold J0 at h;refine lpH (τ:=Int) (fun i17=>(.p (.slice 3 (Q8 Qe.cells l)) :: .any :: .any::iI i17::a16 (a8 (.any :: [])):List AV)) (fun n0 i17=>Yk N l n0 i17) (0) h fun n0 i17 h=>?_
 first | rw [Yk] at h | simp only [Yk] at h
 rw [cX] at h;refine iR h fun h=>?_;refine xR h fun y19 h=>?_;refine iL h fun h=>?_;refine xR h fun y22 h=>?_;refine iL h fun h=>?_;show Exists _;exact ⟨(n0,(wrap .i64 (i17+1))),h,Lf _,(fun i=>i),Ya⟩
def Y0 (N:Nat) (l:List Qk):Nat→Int→Option Bool
 | 0,_=>none
 | n+1,i17=>
  cond (Q4 .lss i17 ((Q8 Qk.cells l).length:Int))
  ((idx l i17).bind fun y19=>
  cond (Q4 .gtr (y19.Text.length:Int) 300)
  (some false)
  ((idx l i17).bind fun y22=>
  cond (Q4 .gtr (y22.Value.length:Int) 300)
  (some false)
  (Y0 N l n (wrap .i64 (i17+1)))))
  (some (Q4 .leq ((Q8 Qk.cells l).length:Int) 30))
def Zb (N:Nat) (l:List Qk):Option Bool:=
 Y0 N l N 0
theorem Xi {N} {l} {r} (h:Zb N l=some r):pU 19 [.slice 4 (Q8 Qk.cells l)] (.bool r):=by
 refine Q2 k19 ?_;unfold Zb at h;refine lpH (τ:=Int) (fun i17=>(.p (.slice 4 (Q8 Qk.cells l)) :: .any :: .any::iI i17::a16 (a8 (.any :: [])):List AV)) (fun n0 i17=>Y0 N l n0 i17) (0) h fun n0 i17 h=>?_
 first | rw [Y0] at h | simp only [Y0] at h
 rw [cX] at h;refine iR h fun h=>?_;refine xR h fun y19 h=>?_;refine iL h fun h=>?_;refine xR h fun y22 h=>?_;refine iL h fun h=>?_;show Exists _;exact ⟨(n0,(wrap .i64 (i17+1))),h,Lf _,(fun i=>i),Ya⟩
def Zw (N:Nat) (p:Qu):Nat→Int→Option Bool
 | 0,_=>none
 | n+1,i11=>
  cond (Q4 .lss i11 ((Q8 Z0.cells p.Filters).length:Int))
  (cond (Q4 .lss i11 31)
  ((idx p.Filters i11).bind fun y14=>
  cond (Q4 .gtr (y14.Topic.length:Int) 2000)
  (some false)
  (Zw N p n (wrap .i64 (i11+1))))
  (cond (Q4 .leq (p.Topic.length:Int) 2000)
  (cond (Q4 .leq (p.Payload.length:Int) 2000)
  (cond (Q4 .leq (p.Client.length:Int) 2000)
  (cond (Q4 .leq (p.User.length:Int) 2000)
  (cond (Q4 .leq (p.Pass.length:Int) 2000)
  (cond (Q4 .leq (p.Will.Topic.length:Int) 2000)
  (cond (Q4 .leq (p.Will.Payload.length:Int) 2000)
  (cond (Q4 .leq ((Q8 (cI .i64) p.Codes).length:Int) 30)
  (cond (Q4 .leq ((Q8 Z0.cells p.Filters).length:Int) 30)
  ((Zb N p.Props).bind fun v26=>
  cond v26
  ((Zb N p.Will.Props).bind fun v29=>
  some v29)
  (some false))
  (some false))
  (some false))
  (some false))
  (some false))
  (some false))
  (some false))
  (some false))
  (some false))
  (some false)))
  (cond (Q4 .leq (p.Topic.length:Int) 2000)
  (cond (Q4 .leq (p.Payload.length:Int) 2000)
  (cond (Q4 .leq (p.Client.length:Int) 2000)
  (cond (Q4 .leq (p.User.length:Int) 2000)
  (cond (Q4 .leq (p.Pass.length:Int) 2000)
  (cond (Q4 .leq (p.Will.Topic.length:Int) 2000)
  (cond (Q4 .leq (p.Will.Payload.length:Int) 2000)
  (cond (Q4 .leq ((Q8 (cI .i64) p.Codes).length:Int) 30)
  (cond (Q4 .leq ((Q8 Z0.cells p.Filters).length:Int) 30)
  ((Zb N p.Props).bind fun v40=>
  cond v40
  ((Zb N p.Will.Props).bind fun v43=>
  some v43)
  (some false))
  (some false))
  (some false))
  (some false))
  (some false))
  (some false))
  (some false))
  (some false))
  (some false))
  (some false))
def V5 (N:Nat) (p:Qu):Option Bool:=
 Zw N p N 0
theorem Q3g {N} {p} {r} (h:V5 N p=some r):pU 20 [.agg (Qu.cells p)] (.bool r):=by
 refine Q2 k20 ?_;unfold V5 at h;refine lpH (τ:=Int) (fun i11=>(.any :: .ptr 0 0 :: .any::iI i11::a16 (a16 (a16 (a16 (a16 (a4 ([])))))):List AV)) (fun n0 i11=>Zw N p n0 i11) (0) h fun n0 i11 h=>?_
 first | rw [Zw] at h | simp only [Zw] at h
 rw [cX] at h;apply iU h<;>intro h
 ·apply iU h<;>intro h
  ·refine xR h fun y14 h=>?_;refine iL h fun h=>?_;show Exists _;exact ⟨(n0,(wrap .i64 (i11+1))),h,Lf _,(fun i=>i),Ya⟩
  refine iR h fun h=>?_;refine iR h fun h=>?_;refine iR h fun h=>?_;refine iR h fun h=>?_;refine iR h fun h=>?_;refine iR h fun h=>?_;refine iR h fun h=>?_;refine iR h fun h=>?_;refine iR h fun h=>?_;refine cP h Xi p1 fun v26 h=>?_;refine iR h fun h=>?_;refine cP h Xi p1 fun v29 h=>?_;cases h;exact (.p _)
 refine iR h fun h=>?_;refine iR h fun h=>?_;refine iR h fun h=>?_;refine iR h fun h=>?_;refine iR h fun h=>?_;refine iR h fun h=>?_;refine iR h fun h=>?_;refine iR h fun h=>?_;refine iR h fun h=>?_;refine cP h Xi p1 fun v40 h=>?_;refine iR h fun h=>?_;refine cP h Xi p1 fun v43 h=>?_;cases h;exact (.p _)
def Ge (_N:Nat) (m:U2):Option Bool:=
 cond (Q4 .leq (m.Name.length:Int) 70000)
 (some (Q4 .leq (m.Data.length:Int) 70000))
 (some false)
theorem Q4w {N} {m} {r} (h:Ge N m=some r):pU 43 [.agg (U2.cells m)] (.bool r):=by
 refine Q2 k43 ?_;unfold Ge at h;rw [cX] at h;exact iB h
def Zm (N:Nat) (d:Qq):Nat→Int→Option Bool
 | 0,_=>none
 | n+1,i14=>
  cond (Q4 .lss i14 ((Q8 Vd.cells d.Hops).length:Int))
  ((idx d.Hops i14).bind fun y16=>
  cond (Q4 .gtr (y16.Node.length:Int) 300)
  (some false)
  (Zm N d n (wrap .i64 (i14+1))))
  (some true)
def Wi (N:Nat) (d:Qq):Option Bool:=
 cond (Q4 .gtr ((Q8 Vd.cells d.Hops).length:Int) 8)
 (some false)
 ((Ge N d.Msg).bind fun v2=>
 cond (!v2)
 (some false)
 (Zm N d N 0))
theorem Q2p {N} {d} {r} (h:Wi N d=some r):pU 21 [.agg (Qq.cells d)] (.bool r):=by
 refine Q2 k21 ?_;unfold Wi at h;rw [cX] at h;refine iL h fun h=>?_;refine cP h Q4w (.cons (Ar (f8_ (f2_ (.cons (.p _) p5)))) .nil) fun v2 h=>?_;refine iL h fun h=>?_;refine lpH (τ:=Int) (fun i14=>(.any :: .ptr 0 0 :: .any::iI i14::a16 (a8 (.any :: [])):List AV)) (fun n0 i14=>Zm N d n0 i14) (0) h fun n0 i14 h=>?_
 first | rw [Zm] at h | simp only [Zm] at h
 rw [cX] at h;refine iR h fun h=>?_;refine xR h fun y16 h=>?_;refine iL h fun h=>?_;show Exists _;exact ⟨(n0,(wrap .i64 (i14+1))),h,Lf _,(fun i=>i),Ya⟩
def Y4 (rv:Q0→Int→Int→Option Int) (N:Nat) (v:Q0) (deep:Int) (most:Int):Nat→Int→Int→Option Int
 | 0,_,_=>none
 | n+1,n18,i19=>
  cond (Q4 .lss i19 ((Q0.rows v.Items).length:Int))
  (cond (Q4 .leq n18 most)
  ((idx v.Items i19).bind fun y22=>
  (rv y22 (wrap .i64 (deep - 1)) (wrap .i64 (most - n18))).bind fun v24=>
  Y4 rv N v deep most n (wrap .i64 (n18+v24)) (wrap .i64 (i19+1)))
  (some n18))
  (some n18)
def Ug (rv:Q0→Int→Int→Option Int) (N:Nat) (v:Q0) (deep:Int) (most:Int):Option Int:=
 cond (Q4 .lss deep 0)
 (some (wrap .i64 (most+1)))
 (cond (Q4 .gtr ((Q0.rows v.Items).length:Int) most)
 (some (wrap .i64 (most+1)))
 (cond (Q4 .gtr (v.Text.length:Int) 400)
 (some (wrap .i64 (most+1)))
 (Y4 rv N v deep most N 1 0)))
theorem Q6w {rv:Q0→Int→Int→Option Int} (hx1:∀ {v} {deep} {most} {r},rv v deep most=some r→pU 88 [.agg (Q0.cells v),.int .i64 deep,.int .i64 most] (.int .i64 r)) {N} {v} {deep} {most} {r} (h:Ug rv N v deep most=some r):pU 88 [.agg (Q0.cells v),.int .i64 deep,.int .i64 most] (.int .i64 r):=by
 refine Q2 k88 ?_;unfold Ug at h;rw [cX] at h;refine iL h fun h=>?_;refine iL h fun h=>?_;refine iL h fun h=>?_;refine lpH (τ:=Int×Int) (fun ⟨n18,i19⟩=>(.any::iI deep::iI most :: .ptr 0 0::a2 (.any::iI n18::iI i19::a16 (a16 (a8 (a2 (.any :: []))))):List AV)) (fun n0 ⟨n18,i19⟩=>Y4 rv N v deep most n0 n18 i19) (1,0) h fun n0 ⟨n18,i19⟩ h=>?_
 first | rw [Y4] at h | simp only [Y4] at h
 rw [cX] at h;refine iR h fun h=>?_;refine iR h fun h=>?_;refine Q0.xR h fun y22 h=>?_;refine cP h hx1 (.cons q4 p2) fun v24 h=>?_;show Exists _;exact ⟨(n0,(wrap .i64 (n18+v24)),(wrap .i64 (i19+1))),h,Lf _,(fun i=>i),Ya⟩
def Zp:Nat→Q0→Int→Int→Option Int
 | 0=>fun _ _ _=>none
 | N+1=>Ug (Zp N) N
theorem Q6z {N} {v} {deep} {most} {r} (h:Zp N v deep most=some r):pU 88 [.agg (Q0.cells v),.int .i64 deep,.int .i64 most] (.int .i64 r):=by
 induction N generalizing v deep most r with
 | zero=>simp [Zp] at h
 | succ N ih=>exact Q6w (fun h=>ih h) h
def W3 (N:Nat) (v:Q0):Option Bool:=
 (Zp N v 6 40).bind fun v1=>
 some (Q4 .leq v1 40)
theorem Q3s {N} {v} {r} (h:W3 N v=some r):pU 44 [.agg (Q0.cells v)] (.bool r):=by
 refine Q2 k44 ?_;unfold W3 at h;rw [cX] at h;refine cP h Q6z (.cons q4 p2) fun v1 h=>?_;cases h;exact (.p _)
def Z9 (N:Nat) (f:Zn):Nat→Int→Option Bool
 | 0,_=>none
 | n+1,i17=>
  cond (Q4 .lss i17 ((Q0.rows f.Values).length:Int))
  ((idx f.Values i17).bind fun y19=>
  (W3 N y19).bind fun v21=>
  cond (!v21)
  (some false)
  (Z9 N f n (wrap .i64 (i17+1))))
  (some true)
def Y5 (N:Nat) (f:Zn):Option Bool:=
 cond (Q4 .gtr ((Q0.rows f.Values).length:Int) 6)
 (some false)
 (cond (Q4 .gtr (f.Ext.length:Int) 1100)
 (some false)
 (Z9 N f N 0))
theorem Q48 {N} {f} {r} (h:Y5 N f=some r):pU 22 [.agg (Zn.cells f)] (.bool r):=by
 refine Q2 k22 ?_;unfold Y5 at h;rw [cX] at h;refine iL h fun h=>?_;refine iL h fun h=>?_;refine lpH (τ:=Int) (fun i17=>(.any :: .ptr 0 0 :: .any::iI i17::a16 (a8 ([])):List AV)) (fun n0 i17=>Z9 N f n0 i17) (0) h fun n0 i17 h=>?_
 first | rw [Z9] at h | simp only [Z9] at h
 rw [cX] at h;refine iR h fun h=>?_;refine Q0.xR h fun y19 h=>?_;refine cP h Q3s (.cons q4 .nil) fun v21 h=>?_;refine iL h fun h=>?_;show Exists _;exact ⟨(n0,(wrap .i64 (i17+1))),h,Lf _,(fun i=>i),Ya⟩
def Vs (N:Nat) (e:Qf):Option Bool:=
 cond (Q4 .leq (e.Topic.length:Int) 2000)
 (cond (Q4 .leq (e.Payload.length:Int) 2000)
 ((Zb N e.Props).bind fun v3=>
 cond v3
 ((V5 N e.Packet).bind fun v6=>
 cond v6
 ((Wi N (⟨e.Hops,e.Msg⟩:Qq)).bind fun v9=>
 cond v9
 ((Y5 N e.Frame).bind fun v12=>
 some v12)
 (some false))
 (some false))
 (some false))
 (some false))
 (some false)
theorem Q46 {N} {e} {r} (h:Vs N e=some r):pU 8 [.agg (Qf.cells e)] (.bool r):=by
 refine Q2 k8 ?_;unfold Vs at h;rw [cX] at h;refine iR h fun h=>?_;refine iR h fun h=>?_;refine cP h Xi p1 fun v3 h=>?_;refine iR h fun h=>?_;refine cP h Q3g (.cons (Ar (Xd (f2_ (f1_ (.cons (.p _) p5))))) .nil) fun v6 h=>?_;refine iR h fun h=>?_;refine cP h Q2p (.cons (Ar (f8_ (f2_ (f1_ (.cons (.p _) p5))))) .nil) fun v9 h=>?_;refine iR h fun h=>?_;refine cP h Q48 (.cons q4 .nil) fun v12 h=>?_;cases h;exact (.p _)
def Q03 (_N:Nat) (s_0:List UInt8):Option Bool:=
 cond (Q4 .geq (s_0.length:Int) 3)
 (cond (Nat.ble 0 3&&Nat.ble 3 s_0.length) (some (G9 .eql ((s_0.take 3).drop 0) [239,191,189])) none)
 (some false)
theorem Qal {N} {s_0} {r} (h:Q03 N s_0=some r):pU 181 [.str s_0] (.bool r):=by
 refine Q2 Zea ?_;unfold Q03 at h;rw [cX,cY] at h;refine iR h fun h=>?_;refine kU h fun h=>?_;cases h;exact (.p _)
def Ws (N:Nat) (s_0:List UInt8):Nat→Nat→Option Int
 | 0,_=>none
 | n+1,pos16=>
  cond (Nat.blt pos16 s_0.length)
  (cond (Q4 .eql (((Qbu s_0 pos16).1:Nat):Int) 0)
  (some ((pos16:Nat):Int))
  (cond (Q4 .eql (((Qbu s_0 pos16).1:Nat):Int) 65533)
  (cond (Nat.ble pos16 s_0.length&&Nat.ble s_0.length s_0.length) ((Q03 N ((s_0.take s_0.length).drop pos16)).bind fun v21=>
  cond (!v21)
  (some ((pos16:Nat):Int))
  (Ws N s_0 n (pos16+(Qbu s_0 pos16).2))) none)
  (Ws N s_0 n (pos16+(Qbu s_0 pos16).2))))
  (some (-1))
def Q3d (N:Nat) (s_0:List UInt8):Option Int:=
 Ws N s_0 N 0
theorem Qbv {N} {s_0} {r} (h:Q3d N s_0=some r):pU 144 [.str s_0] (.int .i64 r):=by
 refine Q2 Zf6 ?_;unfold Q3d at h;refine lpA (τ:=Nat) (fun _=>(iS s_0::a4 (.any :: .ptr 0 0::a16 (a2 ([]))):List AV)) (fun pos16=>(.strIter s_0 pos16 :: []:List AObj)) (fun n0 pos16=>Ws N s_0 n0 pos16) (0) h fun n0 pos16 h=>?_
 first | rw [Ws] at h | simp only [Ws] at h
 rw [cX] at h;refine iR h fun h=>?_;refine iL h fun h=>?_;apply iU h<;>intro h
 ·refine kU h fun h=>?_;refine cP h Qal p1 fun v21 h=>?_;refine iL h fun h=>?_;show Exists _;exact ⟨(n0,(pos16+(Qbu s_0 pos16).2)),h,Lf _,(fun i=>i),Ya⟩
 show Exists _;exact ⟨(n0,(pos16+(Qbu s_0 pos16).2)),h,Lf _,(fun i=>i),Ya⟩
def Yy (N:Nat) (s_0:List UInt8):Option Bool:=
 cond (Q4 .leq (s_0.length:Int) 65535)
 ((Q3d N s_0).bind fun v2=>
 some (Q4 .eql v2 (-1)))
 (some false)
theorem Wg {N} {s_0} {r} (h:Yy N s_0=some r):pU 113 [.str s_0] (.bool r):=by
 refine Q2 Za3 ?_;unfold Yy at h;rw [cX] at h;refine iR h fun h=>?_;refine cP h Qbv p1 fun v2 h=>?_;cases h;exact (.p _)
def Q4n (N:Nat) (s_0:List UInt8):Option Bool:=
 cond (G9 .neq s_0 [])
 ((Yy N s_0).bind fun v2=>
 some v2)
 (some false)
theorem Qds {N} {s_0} {r} (h:Q4n N s_0=some r):pU 89 [.str s_0] (.bool r):=by
 refine Q2 k89 ?_;unfold Q4n at h;rw [cY] at h;refine iR h fun h=>?_;refine cP h Wg p1 fun v2 h=>?_;cases h;exact (.p _)
def Xh (_N:Nat) (s_0:List UInt8) (c:Int):Option Int:=
 some (Qkw s_0 (UInt8.ofNat (Int.toNat c)) 0:Int)
theorem Q10 {N} {s_0} {c} {r} (h:Xh N s_0 c=some r):pU 207 [.str s_0,.int .u8 c] (.int .i64 r):=by
 refine Q2 Z8o ?_;unfold Xh at h;cases h;exact (.p _)
def Ju (N:Nat) (s_0:List UInt8) (c:Int):Option Int:=
 (Xh N s_0 c).bind fun v1=>
 some v1
theorem Q22 {N} {s_0} {c} {r} (h:Ju N s_0 c=some r):pU 182 [.str s_0,.int .u8 c] (.int .i64 r):=by
 refine Q2 Zdd ?_;unfold Ju at h;refine cP h Q10 p2 fun v1 h=>?_;cases h;exact (.p _)
def Wa (_N:Nat) (r_0:Int):Option Bool:=
 cond (Q4 .leq 0 r_0)
 (cond (Q4 .lss r_0 55296)
 (some true)
 (cond (Q4 .lss 57343 r_0)
 (cond (Q4 .leq r_0 1114111)
 (some true)
 (some false))
 (some false)))
 (cond (Q4 .lss 57343 r_0)
 (cond (Q4 .leq r_0 1114111)
 (some true)
 (some false))
 (some false))
theorem Q3y {N} {r_0} {r} (h:Wa N r_0=some r):pU 183 [.int .i32 r_0] (.bool r):=by
 refine Q2 Zax ?_;unfold Wa at h;rw [cX] at h;apply iU h<;>intro h
 ·refine iL h fun h=>?_;refine iR h fun h=>?_;exact iB h
 refine iR h fun h=>?_;exact iB h
def Y3 (N:Nat) (s_0:List UInt8):Nat→Nat→Option Int
 | 0,_=>none
 | n+1,pos13=>
  cond (Nat.blt pos13 s_0.length)
  (cond (Q4 .eql (((Qbu s_0 pos13).1:Nat):Int) 65533)
  (some ((pos13:Nat):Int))
  (Y3 N s_0 n (pos13+(Qbu s_0 pos13).2)))
  (some (-1))
def V0 (N:Nat) (s_0:List UInt8) (r_1:Int) (v82:Int):Nat→Int→Option Int
 | 0,_=>none
 | n+1,j98=>
  cond (Q4 .lss j98 (((Utf8.encode r_1).data.toList).length:Int))
  ((idx s_0 (wrap .i64 ((wrap .i64 ((wrap .i64 ((((Utf8.encode r_1).data.toList).length:Int) - 1))+(wrap .i64 (v82+1)))) - j98))).bind fun b100=>
  (idx ((Utf8.encode r_1).data.toList) (wrap .i64 ((wrap .i64 ((((Utf8.encode r_1).data.toList).length:Int) - 1)) - j98))).bind fun b102=>
  cond (Q4 .neq (b100.toNat:Int) (b102.toNat:Int))
  (none)
  (V0 N s_0 r_1 v82 n (wrap .i64 (j98+1))))
  (some (wrap .i64 ((wrap .i64 ((wrap .i64 ((((Utf8.encode r_1).data.toList).length:Int) - 1))+(wrap .i64 (v82+1)))) - (wrap .i64 ((((Utf8.encode r_1).data.toList).length:Int) - 1)))))
def Wy (N:Nat) (s_0:List UInt8) (r_1:Int):Nat→Int→Option Int
 | 0,_=>none
 | n+1,j118=>
  cond (Q4 .lss j118 (((Utf8.encode r_1).data.toList).length:Int))
  ((idx s_0 (wrap .i64 ((wrap .i64 ((((Utf8.encode r_1).data.toList).length:Int) - 1)) - j118))).bind fun b120=>
  (idx ((Utf8.encode r_1).data.toList) (wrap .i64 ((wrap .i64 ((((Utf8.encode r_1).data.toList).length:Int) - 1)) - j118))).bind fun b122=>
  cond (Q4 .neq (b120.toNat:Int) (b122.toNat:Int))
  (none)
  (Wy N s_0 r_1 n (wrap .i64 (j118+1))))
  (some (wrap .i64 ((wrap .i64 ((((Utf8.encode r_1).data.toList).length:Int) - 1)) - (wrap .i64 ((((Utf8.encode r_1).data.toList).length:Int) - 1)))))
def Xx (N:Nat) (s_0:List UInt8) (r_1:Int):Nat→Option Int
 | 0=>none
 | n+1=>
  cond (Q4 .lss (wrap .i64 ((((Utf8.encode r_1).data.toList).length:Int) - 1)) (s_0.length:Int))
  ((idx s_0 (wrap .i64 ((((Utf8.encode r_1).data.toList).length:Int) - 1))).bind fun b73=>
  (idx ((Utf8.encode r_1).data.toList) (wrap .i64 ((((Utf8.encode r_1).data.toList).length:Int) - 1))).bind fun b75=>
  cond (Q4 .neq (b73.toNat:Int) (b75.toNat:Int))
  (cond (decide (0≤(wrap .i64 ((wrap .i64 ((((Utf8.encode r_1).data.toList).length:Int) - 1))+1)))) (cond (Nat.ble (wrap .i64 ((wrap .i64 ((((Utf8.encode r_1).data.toList).length:Int) - 1))+1)).toNat s_0.length&&Nat.ble s_0.length s_0.length) ((idx ((Utf8.encode r_1).data.toList) (wrap .i64 ((((Utf8.encode r_1).data.toList).length:Int) - 1))).bind fun b80=>
  (Ju N ((s_0.take s_0.length).drop ((wrap .i64 ((wrap .i64 ((((Utf8.encode r_1).data.toList).length:Int) - 1))+1)).toNat)) (b80.toNat:Int)).bind fun v82=>
  cond (Q4 .lss v82 0)
  (some (-1))
  (V0 N s_0 r_1 v82 N 1)) none) none)
  (Wy N s_0 r_1 N 1))
  (some (-1))
def Ww (N:Nat) (s_0:List UInt8) (r_1:Int) (s2:Bool):Option Int:=
 cond s2
 ((Ju N s_0 (wrap .u8 r_1)).bind fun v5=>
 some v5)
 (cond (Q4 .eql r_1 65533)
 (Y3 N s_0 N 0)
 ((Wa N r_1).bind fun v16=>
 cond (!v16)
 (some (-1))
 (Xx N s_0 r_1 N)))
def Jt (N:Nat) (s_0:List UInt8) (r_1:Int):Option Int:=
 cond (Q4 .leq 0 r_1)
 (Ww N s_0 r_1 (Q4 .lss r_1 128))
 (Ww N s_0 r_1 false)
theorem Q6y {N} {s_0} {r_1} {r} (h:Jt N s_0 r_1=some r):pU 145 [.str s_0,.int .i32 r_1] (.int .i64 r):=by
 refine Q2 Zej ?_;unfold Jt at h;rw [cX] at h;refine jrH (r:=r) (σ:=Bool) (fun s2=>(iS s_0 :: .p (.int .i32 r_1)::a16 (a16 (a16 (a16 (a16 (a16 (a16 (a16 (a16 (a8 (a4 (a2 (.p (.bool s2)::a16 (a8 (a2 ([]))))))))))))))):List AV)) (fun s2=>Ww N s_0 r_1 s2) ?_ ?_
 ·apply iU h<;>intro h
  ·show Exists _;exact ⟨((Qi3 .lss r_1 128)),h,(fun i=>i),Ya⟩
  show Exists _;exact ⟨(false),h,(fun i=>i),Ya⟩
 rintro s2 h
 unfold Ww at h;rw [cX] at h;apply iU h<;>intro h
 ·refine cP h Q22 p2 fun v5 h=>?_;cases h;exact (.p _)
 apply iU h<;>intro h
 ·refine lpA (τ:=Nat) (fun _=>(a16 (a16 (a16 (a16 (a16 (a16 (a16 (a16 (a16 (a16 (a8 (a4 (a2 (.any :: .ptr 0 0::a8 (a2 (.any :: []))))))))))))))):List AV)) (fun pos13=>(.strIter s_0 pos13 :: []:List AObj)) (fun n1 pos13=>Y3 N s_0 n1 pos13) (0) h fun n1 pos13 h=>?_
  first | rw [Y3] at h | simp only [Y3] at h
  rw [cX] at h;refine iR h fun h=>?_;refine iL h fun h=>?_;show Exists _;exact ⟨(n1,(pos13+(Qbu s_0 pos13).2)),h,Lf _,(fun i=>i),Ya⟩
 refine cP h Q3y p1 fun v16 h=>?_;refine iL h fun h=>?_;refine lpH (τ:=Unit) (fun _=>(iS s_0::a4 (a2 (iS ((Utf8.encode r_1).data.toList) :: .p (.int .i64 (wrap .i64 ((((Utf8.encode r_1).data.toList).length:Int) - 1))) :: .p (.int .i64 (wrap .i64 ((((Utf8.encode r_1).data.toList).length:Int) - 1)))::a16 (a16 (a16 (a16 (a16 (a16 (a16 (a16 (a16 (a16 (a16 (.any :: []))))))))))))):List AV)) (fun n2 ⟨⟩=>Xx N s_0 r_1 n2) () h fun n2 ⟨⟩ h=>?_
 first | rw [Xx] at h | simp only [Xx] at h
 rw [cX] at h;refine iR h fun h=>?_;refine Qp ?_;refine xB h fun b73 h=>?_;refine xB h fun b75 h=>?_;apply iU h<;>intro h
 ·refine Qp ?_;refine kU h fun h=>?_;refine kU h fun h=>?_;refine xB h fun b80 h=>?_;refine cD h Q22 p2 fun v82 h=>?_;refine iL h fun h=>?_;refine lpH (τ:=Int) (fun j98=>(iS s_0::a4 (a2 (iS ((Utf8.encode r_1).data.toList) :: .p (.int .i64 (wrap .i64 ((((Utf8.encode r_1).data.toList).length:Int) - 1))) :: .p (.int .i64 (wrap .i64 ((wrap .i64 ((((Utf8.encode r_1).data.toList).length:Int) - 1))+(wrap .i64 (v82+1))))) :: .any :: .any::iI j98::a16 (a16 (a16 (a16 (a16 (a16 (a16 (a16 (a16 (a16 (a8 (a4 (a2 ([]))))))))))))))):List AV)) (fun n3 j98=>V0 N s_0 r_1 v82 n3 j98) (1) h fun n3 j98 h=>?_
  first | rw [V0] at h | simp only [V0] at h
  rw [cX] at h;refine iR h fun h=>?_;refine Qp ?_;refine xB h fun b100 h=>?_;refine xB h fun b102 h=>?_;apply iU h<;>intro h
  ·first | (cases h;done) | (simp [Ut] at h;done)
  show Exists _;exact ⟨(n3,(wrap .i64 (j98+1))),h,Lf _,(fun i=>i),Ya⟩
 refine lpH (τ:=Int) (fun j118=>(iS s_0::a4 (a2 (iS ((Utf8.encode r_1).data.toList) :: .p (.int .i64 (wrap .i64 ((((Utf8.encode r_1).data.toList).length:Int) - 1))) :: .p (.int .i64 (wrap .i64 ((((Utf8.encode r_1).data.toList).length:Int) - 1))) :: .any :: .any::iI j118::a16 (a16 (a16 (a16 (a16 (a16 (a16 (a16 (a16 (a16 (a8 (a4 (a2 ([]))))))))))))))):List AV)) (fun n4 j118=>Wy N s_0 r_1 n4 j118) (1) h fun n4 j118 h=>?_
 first | rw [Wy] at h | simp only [Wy] at h
 rw [cX] at h;refine iR h fun h=>?_;refine Qp ?_;refine xB h fun b120 h=>?_;refine xB h fun b122 h=>?_;apply iU h<;>intro h
 ·first | (cases h;done) | (simp [Ut] at h;done)
 show Exists _;exact ⟨(n4,(wrap .i64 (j118+1))),h,Lf _,(fun i=>i),Ya⟩
def Ue (_N:Nat) (bufLen:Int):Option Bool:=
 some (Q4 .gtr bufLen 8)
theorem Q2r {N} {bufLen} {r} (h:Ue N bufLen=some r):pU 146 [.int .i64 bufLen] (.bool r):=by
 refine Q2 Z5k ?_;unfold Ue at h;rw [cX] at h;cases h;exact (.p _)
def Xe (N:Nat) (s_0:List UInt8):Nat→Int→Option Int
 | 0,_=>none
 | n+1,i20=>
  cond (Q4 .lss i20 (s_0.length:Int))
  ((idx s_0 i20).bind fun b22=>
  cond (decide (0≤(b22.toNat:Int))&&decide ((b22.toNat:Int)<((256:Nat):Int))) ((idx ([false,false,false,false,false,false,false,false,false,false,false,false,false,false,false,false,false,false,false,false,false,false,false,false,false,false,false,false,false,false,false,false,false,false,false,true,false,false,false,false,false,false,false,true,false,false,false,false,false,false,false,false,false,false,false,false,false,false,false,false,false,false,false,false,false,false,false,false,false,false,false,false,false,false,false,false,false,false,false,false,false,false,false,false,false,false,false,false,false,false,false,false,false,false,false,false,false,false,false,false,false,false,false,false,false,false,false,false,false,false,false,false,false,false,false,false,false,false,false,false,false,false,false,false,false,false,false,false,false,false,false,false,false,false,false,false,false,false,false,false,false,false,false,false,false,false,false,false,false,false,false,false,false,false,false,false,false,false,false,false,false,false,false,false,false,false,false,false,false,false,false,false,false,false,false,false,false,false,false,false,false,false,false,false,false,false,false,false,false,false,false,false,false,false,false,false,false,false,false,false,false,false,false,false,false,false,false,false,false,false,false,false,false,false,false,false,false,false,false,false,false,false,false,false,false,false,false,false,false,false,false,false,false,false,false,false,false,false,false,false,false,false,false,false,false,false,false,false,false,false,false,false,false,false,false,false]:List Bool) (b22.toNat:Int)).bind fun y24=>
  cond y24
  (some i20)
  (Xe N s_0 n (wrap .i64 (i20+1)))) none)
  (some (-1))
def Xc (N:Nat) (s_0:List UInt8):Nat→Nat→Option Int
 | 0,_=>none
 | n+1,pos37=>
  cond (Nat.blt pos37 s_0.length)
  ((Jt N [43,35] (((Qbu s_0 pos37).1:Nat):Int)).bind fun v39=>
  cond (Q4 .geq v39 0)
  (some ((pos37:Nat):Int))
  (Xc N s_0 n (pos37+(Qbu s_0 pos37).2)))
  (some (-1))
def J1 (N:Nat) (s_0:List UInt8):Option Int:=
 cond (G9 .eql [43,35] [])
 (some (-1))
 ((Ue N (s_0.length:Int)).bind fun v2=>
 cond v2
 (Xe N s_0 N 0)
 (Xc N s_0 N 0))
theorem Q5k {N} {s_0} {r} (h:J1 N s_0=some r):pU 114 [.str s_0,.str [43,35]] (.int .i64 r):=by
 refine Q2 Zdc ?_;unfold J1 at h;rw [cY] at h;refine iL h fun h=>?_;refine dF ?_;refine cP h Q2r p1 fun v2 h=>?_;apply iU h<;>intro h
 ·refine Qa Zbd ?_;refine Z1 4 ?_;refine dT ?_;refine dF ?_;refine dT ?_;refine dF ?_;refine dF ?_;refine lpH (τ:=Int) (fun i20=>(iS s_0::a4 (.any :: .ptr 1 0 :: .any::iI i20::a16 (a16 (a8 (a4 (a2 ([])))))):List AV)) (fun n0 i20=>Xe N s_0 n0 i20) (0) h fun n0 i20 h=>?_
  first | rw [Xe] at h | simp only [Xe] at h
  rw [cX] at h;refine iR h fun h=>?_;refine xB h fun b22 h=>?_;refine Qa Z4c ?_;refine kU h fun h=>?_;obtain ⟨y24,hy25,h⟩:=Q1k h
  refine Q9a (c:=cB) (e:=1) (fun _=>rfl) hy25 (off:=0) (by decide) (by first | omega | (simp only [Qbn,orI,Qvs,Q7p,Qi7,Qkl];omega)) ?_
  refine iL h fun h=>?_;show Exists _;exact ⟨(n0,(wrap .i64 (i20+1))),h,Lf _,(fun i=>i),Ya⟩
 refine lpA (τ:=Nat) (fun _=>(.any :: .p (.str [43,35])::a16 (a16 (a8 (a2 (.any :: .ptr 0 0::a8 (.any :: []))))):List AV)) (fun pos37=>(.strIter s_0 pos37 :: []:List AObj)) (fun n1 pos37=>Xc N s_0 n1 pos37) (0) h fun n1 pos37 h=>?_
 first | rw [Xc] at h | simp only [Xc] at h
 rw [cX] at h;refine iR h fun h=>?_;refine cP h Q6y p2 fun v39 h=>?_;refine iL h fun h=>?_;show Exists _;exact ⟨(n1,(pos37+(Qbu s_0 pos37).2)),h,Lf _,(fun i=>i),Ya⟩
def Vt (N:Nat) (s_0:List UInt8):Option Bool:=
 (J1 N s_0).bind fun v1=>
 some (Q4 .geq v1 0)
theorem Q3x {N} {s_0} {r} (h:Vt N s_0=some r):pU 90 [.str s_0,.str [43,35]] (.bool r):=by
 refine Q2 k90 ?_;unfold Vt at h;rw [cX] at h;refine cP h Q5k p2 fun v1 h=>?_;cases h;exact (.p _)
def X4 (N:Nat) (s_0:List UInt8):Option Bool:=
 (Q4n N s_0).bind fun v1=>
 cond v1
 ((Vt N s_0).bind fun v4=>
 some (!v4))
 (some false)
theorem Xy {N} {s_0} {r} (h:X4 N s_0=some r):pU 45 [.str s_0] (.bool r):=by
 refine Q2 k45 ?_;unfold X4 at h;refine cP h Qds p1 fun v1 h=>?_;refine iR h fun h=>?_;refine cP h Q3x p2 fun v4 h=>?_;cases h;exact (.p _)
def Q0q (N:Nat) (R:Reg) (c n:List UInt8):Option ((Int×Bool×Int)×Reg):=(X4 N n).bind fun b=>if WR R then some (Qs4 b R c n) else none
theorem Qb2 {N R c n r} (h:Q0q N R c n=some r):Q4p Tryz.prog G1 25 R [.str c,.str n] (.tuple [.int .i64 r.1.1,.bool r.1.2.1,.int .i64 r.1.2.2]) r.2:=by
 obtain ⟨b,hb,h⟩:=Q1k h;split at h
 ·cases h;exact Qwv (by assumption) (Xy hb)
 cases h
def Z8 (N:Nat) (r_0:Q3) (client:List UInt8):Nat→Int→Option ((List Zh)×Q3)
 | 0,_=>none
 | n+1,i18=>
  cond (Q4 .lss i18 ((Q8 Q1.cells r_0.L).length:Int))
  ((idx r_0.L i18).bind fun y20=>
  cond (G9 .eql y20.client client)
  ((idx r_0.L i18).bind fun y23=>
  cond (Nat.beq (Q8 Zh.cells y23.l).length 0)
  (some ([],r_0))
  (cond (Nat.ble ((0+(Q8 Zh.cells y23.l).length+4096) * 32) 17592186044416) (some ((([]:List Zh)++y23.l),r_0)) none))
  (Z8 N r_0 client n (wrap .i64 (i18+1))))
  (some ([],r_0))
def Zy (N:Nat) (r_0:Q3) (client:List UInt8):Option ((List Zh)×Q3):=
 Z8 N r_0 client N 0
theorem Uo {N} {r_0} {client} {r} (h:Zy N r_0 client=some r):Qpj Tryz.prog G1 49 (Q3.cells r_0) [.str client] (.slice 3 (Q8 Zh.cells r.1)) (Q3.cells r.2):=by
 refine Q5e k49 ?_;unfold Zy at h;refine lpH (τ:=Int) (fun i18=>(.ptr 0 0::iS client::a2 (.any::iI i18::a16 (a8 (a4 (.any :: [])))):List AV)) (fun n0 i18=>Z8 N r_0 client n0 i18) (0) h fun n0 i18 h=>?_
 first | rw [Z8] at h | simp only [Z8] at h
 rw [cX,cY] at h;apply iU h<;>intro h
 ·refine xR h fun y20 h=>?_;apply iU h<;>intro h
  ·refine xR h fun y23 h=>?_;refine Qdh (c:=Zh.cells) (vs:=y23.l) rfl ?_;apply iU h<;>intro h
   ·obtain rfl:=Qn h;exact ⟨_,_,rfl,p1,(frz_own (c:=Zh.cells) (l:=([]:List Zh)) (fun _=>rfl) rfl (by decide) sd)⟩
   obtain ⟨hk25,h⟩:=Q59 h;refine Q3b (Xk (c:=Zh.cells) (e:=3) (l:=([]:List Zh)) (fun _=>rfl) sd hk25) ?_;obtain rfl:=Qn h;exact ⟨_,_,rfl,p1,(frz_own (c:=Zh.cells) (l:=((([]:List Zh)++y23.l):List Zh)) (fun _=>rfl) rfl (by decide) sd)⟩
  show Exists _;exact ⟨(n0,(wrap .i64 (i18+1))),h,Lf _,(fun i=>i),Ya⟩
 obtain rfl:=Qn h;exact ⟨_,_,rfl,p1,(.nil _)⟩
def Q9 (N:Nat) (r_0:Q3) (client:List UInt8) (l:List Zh):Nat→Bool→Int→(List Q1)→Option ((Unit)×Q3)
 | 0,_,_,_=>none
 | n+1,in24,i25,l26=>
  cond (Q4 .lss i25 ((Q8 Q1.cells r_0.L).length:Int))
  ((idx r_0.L i25).bind fun y28=>
  cond (!in24)
  (cond (G9 .lss client y28.client)
  (cond (Nat.ble ((l26.length+1+4096) * 40) 17592186044416) (cond (G9 .neq y28.client client)
  (cond (Nat.ble (((l26.length+1)+1+4096) * 40) 17592186044416) (Q9 N r_0 client l n true (wrap .i64 (i25+1)) ((l26 ++ [(⟨client,l⟩:Q1)]) ++ [y28])) none)
  (Q9 N r_0 client l n true (wrap .i64 (i25+1)) (l26 ++ [(⟨client,l⟩:Q1)]))) none)
  (cond (G9 .neq y28.client client)
  (cond (Nat.ble ((l26.length+1+4096) * 40) 17592186044416) (Q9 N r_0 client l n in24 (wrap .i64 (i25+1)) (l26 ++ [y28])) none)
  (Q9 N r_0 client l n in24 (wrap .i64 (i25+1)) l26)))
  (cond (G9 .neq y28.client client)
  (cond (Nat.ble ((l26.length+1+4096) * 40) 17592186044416) (Q9 N r_0 client l n in24 (wrap .i64 (i25+1)) (l26 ++ [y28])) none)
  (Q9 N r_0 client l n in24 (wrap .i64 (i25+1)) l26)))
  (cond (!in24)
  (cond (Nat.ble ((l26.length+1+4096) * 40) 17592186044416) (some ((),(⟨(l26 ++ [(⟨client,l⟩:Q1)])⟩:Q3))) none)
  (some ((),(⟨l26⟩:Q3))))
def Ye (N:Nat) (r_0:Q3) (client:List UInt8) (l:List Zh):Option ((Unit)×Q3):=
 Q9 N r_0 client l N (Q4 .eql ((Q8 Zh.cells l).length:Int) 0) 0 []
theorem Ji {N} {r_0} {client} {l} {r} (h:Ye N r_0 client l=some r):Qpj Tryz.prog G1 50 (Q3.cells r_0) [.str client,.slice 3 (Q8 Zh.cells l)] (.tuple []) (Q3.cells r.2):=by
 refine Q5e k50 ?_;unfold Ye at h;rw [cX] at h;refine lpA (τ:=Bool×Int×(List Q1)) (fun ⟨in24,i25,l26⟩=>(.ptr 0 0::iS client :: .p (.slice 3 (Q8 Zh.cells l))::a2 (.any :: .slice 2 1 0 l26.length :: .p (.bool in24)::iI i25::a16 (a16 (a16 (a4 (a2 ([])))))):List AV)) (fun ⟨_,_,l26⟩=>(.cells (.p (.slice 2 (Q8 Q1.cells r_0.L)) :: []) :: .cells (Wo Q1.cells l26) :: []:List AObj)) (fun n0 ⟨in24,i25,l26⟩=>Q9 N r_0 client l n0 in24 i25 l26) ((Qi3 .eql ((Q8 Zh.cells l).length:Int) 0),0,[]) h fun n0 ⟨in24,i25,l26⟩ h=>?_
 first | rw [Q9] at h | simp only [Q9] at h
 rw [cX,cY] at h;apply iU h<;>intro h
 ·refine xR h fun y28 h=>?_;apply iU h<;>intro h
  ·apply iU h<;>intro h
   ·obtain ⟨hk32,h⟩:=Q59 h;refine Q3b (Xk (c:=Q1.cells) (e:=2) (fun _=>rfl) sd hk32) ?_;refine Un (c:=Q1.cells) [(⟨client,l⟩:Q1)] rfl ?_;apply iU h<;>intro h
    ·obtain ⟨hk34,h⟩:=Q59 h;refine Q3b (Xk (c:=Q1.cells) (e:=2) (fun _=>rfl) sd hk34) ?_;refine Un (c:=Q1.cells) [y28] rfl ?_;show Exists _;exact ⟨(n0,true,(wrap .i64 (i25+1)),((l26 ++ [(⟨client,l⟩:Q1)]) ++ [y28])),h,Lf _,(rho [0,6]),Ya⟩
    show Exists _;exact ⟨(n0,true,(wrap .i64 (i25+1)),(l26 ++ [(⟨client,l⟩:Q1)])),h,Lf _,(rho [0,4]),Ya⟩
   apply iU h<;>intro h
   ·obtain ⟨hk36,h⟩:=Q59 h;refine Q3b (Xk (c:=Q1.cells) (e:=2) (fun _=>rfl) sd hk36) ?_;refine Un (c:=Q1.cells) [y28] rfl ?_;show Exists _;exact ⟨(n0,in24,(wrap .i64 (i25+1)),(l26 ++ [y28])),h,Lf _,(rho [0,4]),Ya⟩
   show Exists _;exact ⟨(n0,in24,(wrap .i64 (i25+1)),l26),h,Lf _,(fun i=>i),Ya⟩
  apply iU h<;>intro h
  ·obtain ⟨hk38,h⟩:=Q59 h;refine Q3b (Xk (c:=Q1.cells) (e:=2) (fun _=>rfl) sd hk38) ?_;refine Un (c:=Q1.cells) [y28] rfl ?_;show Exists _;exact ⟨(n0,in24,(wrap .i64 (i25+1)),(l26 ++ [y28])),h,Lf _,(rho [0,4]),Ya⟩
  show Exists _;exact ⟨(n0,in24,(wrap .i64 (i25+1)),l26),h,Lf _,(fun i=>i),Ya⟩
 apply iU h<;>intro h
 ·obtain ⟨hk40,h⟩:=Q59 h;refine Q3b (Xk (c:=Q1.cells) (e:=2) (fun _=>rfl) sd hk40) ?_;refine Un (c:=Q1.cells) [(⟨client,l⟩:Q1)] rfl ?_
  obtain rfl:=Qn h;exact ⟨_,_,rfl,(.cons (frz_own (c:=Q1.cells) (l:=((l26 ++ [(⟨client,l⟩:Q1)]):List Q1)) (fun _=>rfl) rfl (by decide) sd) .nil),(by first | exact .p _ | exact .tuple _ _ rfl (fun i v x h=>by simp at h))⟩
 obtain rfl:=Qn h;exact ⟨_,_,rfl,(.cons (frz_own (c:=Q1.cells) (l:=(l26:List Q1)) (fun _=>rfl) rfl (by decide) sd) .nil),(by first | exact .p _ | exact .tuple _ _ rfl (fun i v x h=>by simp at h))⟩
def Zj (N:Nat) (l:List Zh) (t:Zh):Nat→Bool→Int→(List Zh)→Option (List Zh)
 | 0,_,_,_=>none
 | n+1,in27,i28,l29=>
  cond (Q4 .lss i28 ((Q8 Zh.cells l).length:Int))
  (cond (!in27)
  ((idx l i28).bind fun y32=>
  cond (Q4 .lss t.ID y32.ID)
  (cond (Nat.ble ((l29.length+1+4096) * 32) 17592186044416) ((idx l i28).bind fun y36=>
  cond (Nat.ble (((l29.length+1)+1+4096) * 32) 17592186044416) (Zj N l t n true (wrap .i64 (i28+1)) ((l29 ++ [t]) ++ [y36])) none) none)
  ((idx l i28).bind fun y39=>
  cond (Nat.ble ((l29.length+1+4096) * 32) 17592186044416) (Zj N l t n in27 (wrap .i64 (i28+1)) (l29 ++ [y39])) none))
  ((idx l i28).bind fun y42=>
  cond (Nat.ble ((l29.length+1+4096) * 32) 17592186044416) (Zj N l t n in27 (wrap .i64 (i28+1)) (l29 ++ [y42])) none))
  (cond (!in27)
  (cond (Nat.ble ((l29.length+1+4096) * 32) 17592186044416) (some (l29 ++ [t])) none)
  (some l29))
def V2 (N:Nat) (l:List Zh) (t:Zh):Option (List Zh):=
 Zj N l t N false 0 []
theorem Q20 {N} {l} {t} {r} (h:V2 N l t=some r):pU 51 [.slice 3 (Q8 Zh.cells l),.agg (Zh.cells t)] (.slice 3 (Q8 Zh.cells r)):=by
 refine Q2 k51 ?_;unfold V2 at h;refine lpA (τ:=Bool×Int×(List Zh)) (fun ⟨in27,i28,l29⟩=>(.p (.slice 3 (Q8 Zh.cells l)) :: .any :: .any :: .ptr 0 0 :: .any :: .slice 3 1 0 l29.length :: .p (.bool in27)::iI i28::a16 (a16 (a4 ([]))):List AV)) (fun ⟨_,_,l29⟩=>(.cells (iI t.ID::iS t.Name :: .p (.bool t.Fixed) :: []) :: .cells (Wo Zh.cells l29) :: []:List AObj)) (fun n0 ⟨in27,i28,l29⟩=>Zj N l t n0 in27 i28 l29) (false,0,[]) h fun n0 ⟨in27,i28,l29⟩ h=>?_
 first | rw [Zj] at h | simp only [Zj] at h
 rw [cX] at h;apply iU h<;>intro h
 ·refine Qp ?_;apply iU h<;>intro h
  ·refine xR h fun y32 h=>?_;apply iU h<;>intro h
   ·obtain ⟨hk35,h⟩:=Q59 h;refine Q3b (Xk (c:=Zh.cells) (e:=3) (fun _=>rfl) sd hk35) ?_;refine Un (c:=Zh.cells) [t] rfl ?_;refine xR h fun y36 h=>?_;obtain ⟨hk38,h⟩:=Q59 h;refine Q3b (Xk (c:=Zh.cells) (e:=3) (fun _=>rfl) sd hk38) ?_;refine Un (c:=Zh.cells) [y36] rfl ?_;show Exists _;exact ⟨(n0,true,(wrap .i64 (i28+1)),((l29 ++ [t]) ++ [y36])),h,Lf _,(rho [0,5]),Ya⟩
   refine xR h fun y39 h=>?_;obtain ⟨hk41,h⟩:=Q59 h;refine Q3b (Xk (c:=Zh.cells) (e:=3) (fun _=>rfl) sd hk41) ?_;refine Un (c:=Zh.cells) [y39] rfl ?_;show Exists _;exact ⟨(n0,in27,(wrap .i64 (i28+1)),(l29 ++ [y39])),h,Lf _,(rho [0,3]),Ya⟩
  refine xR h fun y42 h=>?_;obtain ⟨hk44,h⟩:=Q59 h;refine Q3b (Xk (c:=Zh.cells) (e:=3) (fun _=>rfl) sd hk44) ?_;refine Un (c:=Zh.cells) [y42] rfl ?_;show Exists _;exact ⟨(n0,in27,(wrap .i64 (i28+1)),(l29 ++ [y42])),h,Lf _,(rho [0,3]),Ya⟩
 apply iU h<;>intro h
 ·obtain ⟨hk46,h⟩:=Q59 h;refine Q3b (Xk (c:=Zh.cells) (e:=3) (fun _=>rfl) sd hk46) ?_;refine Un (c:=Zh.cells) [t] rfl ?_;obtain rfl:=Qn h;exact (frz_own (c:=Zh.cells) (l:=((l29 ++ [t]):List Zh)) (fun _=>rfl) rfl trivial sd)
 obtain rfl:=Qn h;exact (frz_own (c:=Zh.cells) (l:=(l29:List Zh)) (fun _=>rfl) rfl trivial sd)
def Zu (_N:Nat) (s_0:List UInt8) (at_1:Int):Option (Int×Bool):=
 cond (Q4 .geq at_1 (s_0.length:Int))
 (some (0,false))
 ((idx s_0 at_1).bind fun b2=>
 cond (Q4 .lss (b2.toNat:Int) 128)
 (some (0,false))
 ((idx s_0 at_1).bind fun b5=>
 cond (Q4 .gtr (b5.toNat:Int) 191)
 (some (0,false))
 ((idx s_0 at_1).bind fun b8=>
 some ((wrap .i64 ((wrap .i64 (b8.toNat:Int)) - 128)),true))))
theorem Yv {N} {s_0} {at_1} {r} (h:Zu N s_0 at_1=some r):pU 171 [.str s_0,.int .i64 at_1] (.tuple [.int .i64 r.1,.bool r.2]):=by
 refine Q2 Zdr ?_;unfold Zu at h;rw [cX] at h;refine iL2 h fun h=>?_;refine xB h fun b2 h=>?_;refine iL2 h fun h=>?_;refine xB h fun b5 h=>?_;refine iL2 h fun h=>?_;refine xB h fun b8 h=>?_;obtain rfl:=Qn h;exact u2
def Z5 (N:Nat) (s_0:List UInt8) (at_1:Int):Nat→Int→Int→Option (Int×Int)
 | 0,_,_=>none
 | n+1,n15,i17=>
  cond (Q4 .lss i17 2)
  ((Zu N s_0 (wrap .i64 (at_1+i17))).bind fun v19=>
  cond (!v19.2)
  (some (0,0))
  (Z5 N s_0 at_1 n (wrap .i64 ((wrap .i64 (64 * n15))+v19.1)) (wrap .i64 (i17+1))))
  (cond (Q4 .lss n15 128)
  (some (0,0))
  (cond (Q4 .gtr n15 1114111)
  (some (0,0))
  (cond (Q4 .geq n15 55296)
  (cond (Q4 .leq n15 57343)
  (some (0,0))
  (some (n15,2)))
  (some (n15,2)))))
def Z6 (N:Nat) (s_0:List UInt8) (at_1:Int):Nat→Int→Int→Option (Int×Int)
 | 0,_,_=>none
 | n+1,n38,i39=>
  cond (Q4 .lss i39 3)
  ((Zu N s_0 (wrap .i64 (at_1+i39))).bind fun v41=>
  cond (!v41.2)
  (some (0,0))
  (Z6 N s_0 at_1 n (wrap .i64 ((wrap .i64 (64 * n38))+v41.1)) (wrap .i64 (i39+1))))
  (cond (Q4 .lss n38 2048)
  (some (0,0))
  (cond (Q4 .gtr n38 1114111)
  (some (0,0))
  (cond (Q4 .geq n38 55296)
  (cond (Q4 .leq n38 57343)
  (some (0,0))
  (some (n38,3)))
  (some (n38,3)))))
def Z7 (N:Nat) (s_0:List UInt8) (at_1:Int):Nat→Int→Int→Option (Int×Int)
 | 0,_,_=>none
 | n+1,n59,i60=>
  cond (Q4 .lss i60 4)
  ((Zu N s_0 (wrap .i64 (at_1+i60))).bind fun v62=>
  cond (!v62.2)
  (some (0,0))
  (Z7 N s_0 at_1 n (wrap .i64 ((wrap .i64 (64 * n59))+v62.1)) (wrap .i64 (i60+1))))
  (cond (Q4 .lss n59 65536)
  (some (0,0))
  (cond (Q4 .gtr n59 1114111)
  (some (0,0))
  (cond (Q4 .geq n59 55296)
  (cond (Q4 .leq n59 57343)
  (some (0,0))
  (some (n59,4)))
  (some (n59,4)))))
def W8 (N:Nat) (s_0:List UInt8) (at_1:Int):Nat→Int→Int→Option (Int×Int)
 | 0,_,_=>none
 | n+1,n80,i81=>
  cond (Q4 .lss i81 4)
  ((Zu N s_0 (wrap .i64 (at_1+i81))).bind fun v83=>
  cond (!v83.2)
  (some (0,0))
  (W8 N s_0 at_1 n (wrap .i64 ((wrap .i64 (64 * n80))+v83.1)) (wrap .i64 (i81+1))))
  (cond (Q4 .lss n80 65536)
  (some (0,0))
  (cond (Q4 .gtr n80 1114111)
  (some (0,0))
  (cond (Q4 .geq n80 55296)
  (cond (Q4 .leq n80 57343)
  (some (0,0))
  (some (n80,4)))
  (some (n80,4)))))
def W2 (N:Nat) (s_0:List UInt8) (at_1:Int):Nat→Int→Int→Option (Int×Int)
 | 0,_,_=>none
 | n+1,n101,i102=>
  cond (Q4 .lss i102 3)
  ((Zu N s_0 (wrap .i64 (at_1+i102))).bind fun v104=>
  cond (!v104.2)
  (some (0,0))
  (W2 N s_0 at_1 n (wrap .i64 ((wrap .i64 (64 * n101))+v104.1)) (wrap .i64 (i102+1))))
  (cond (Q4 .lss n101 2048)
  (some (0,0))
  (cond (Q4 .gtr n101 1114111)
  (some (0,0))
  (cond (Q4 .geq n101 55296)
  (cond (Q4 .leq n101 57343)
  (some (0,0))
  (some (n101,3)))
  (some (n101,3)))))
def W9 (N:Nat) (s_0:List UInt8) (at_1:Int):Nat→Int→Int→Option (Int×Int)
 | 0,_,_=>none
 | n+1,n122,i123=>
  cond (Q4 .lss i123 4)
  ((Zu N s_0 (wrap .i64 (at_1+i123))).bind fun v125=>
  cond (!v125.2)
  (some (0,0))
  (W9 N s_0 at_1 n (wrap .i64 ((wrap .i64 (64 * n122))+v125.1)) (wrap .i64 (i123+1))))
  (cond (Q4 .lss n122 65536)
  (some (0,0))
  (cond (Q4 .gtr n122 1114111)
  (some (0,0))
  (cond (Q4 .geq n122 55296)
  (cond (Q4 .leq n122 57343)
  (some (0,0))
  (some (n122,4)))
  (some (n122,4)))))
def W4 (N:Nat) (s_0:List UInt8) (at_1:Int):Nat→Int→Int→Option (Int×Int)
 | 0,_,_=>none
 | n+1,n143,i144=>
  cond (Q4 .lss i144 4)
  ((Zu N s_0 (wrap .i64 (at_1+i144))).bind fun v146=>
  cond (!v146.2)
  (some (0,0))
  (W4 N s_0 at_1 n (wrap .i64 ((wrap .i64 (64 * n143))+v146.1)) (wrap .i64 (i144+1))))
  (cond (Q4 .lss n143 65536)
  (some (0,0))
  (cond (Q4 .gtr n143 1114111)
  (some (0,0))
  (cond (Q4 .geq n143 55296)
  (cond (Q4 .leq n143 57343)
  (some (0,0))
  (some (n143,4)))
  (some (n143,4)))))
def W7 (N:Nat) (s_0:List UInt8) (at_1:Int):Option (Int×Int):=
 (idx s_0 at_1).bind fun b1=>
 cond (Q4 .lss (wrap .i64 (b1.toNat:Int)) 128)
 (some ((wrap .i64 (b1.toNat:Int)),1))
 (cond (Q4 .geq (wrap .i64 (b1.toNat:Int)) 192)
 (cond (Q4 .lss (wrap .i64 (b1.toNat:Int)) 224)
 (Z5 N s_0 at_1 N (wrap .i64 ((wrap .i64 (b1.toNat:Int)) - 192)) 1)
 (cond (Q4 .geq (wrap .i64 (b1.toNat:Int)) 224)
 (cond (Q4 .lss (wrap .i64 (b1.toNat:Int)) 240)
 (Z6 N s_0 at_1 N (wrap .i64 ((wrap .i64 (b1.toNat:Int)) - 224)) 1)
 (cond (Q4 .geq (wrap .i64 (b1.toNat:Int)) 240)
 (cond (Q4 .lss (wrap .i64 (b1.toNat:Int)) 248)
 (Z7 N s_0 at_1 N (wrap .i64 ((wrap .i64 (b1.toNat:Int)) - 240)) 1)
 (some (0,0)))
 (some (0,0))))
 (cond (Q4 .geq (wrap .i64 (b1.toNat:Int)) 240)
 (cond (Q4 .lss (wrap .i64 (b1.toNat:Int)) 248)
 (W8 N s_0 at_1 N (wrap .i64 ((wrap .i64 (b1.toNat:Int)) - 240)) 1)
 (some (0,0)))
 (some (0,0)))))
 (cond (Q4 .geq (wrap .i64 (b1.toNat:Int)) 224)
 (cond (Q4 .lss (wrap .i64 (b1.toNat:Int)) 240)
 (W2 N s_0 at_1 N (wrap .i64 ((wrap .i64 (b1.toNat:Int)) - 224)) 1)
 (cond (Q4 .geq (wrap .i64 (b1.toNat:Int)) 240)
 (cond (Q4 .lss (wrap .i64 (b1.toNat:Int)) 248)
 (W9 N s_0 at_1 N (wrap .i64 ((wrap .i64 (b1.toNat:Int)) - 240)) 1)
 (some (0,0)))
 (some (0,0))))
 (cond (Q4 .geq (wrap .i64 (b1.toNat:Int)) 240)
 (cond (Q4 .lss (wrap .i64 (b1.toNat:Int)) 248)
 (W4 N s_0 at_1 N (wrap .i64 ((wrap .i64 (b1.toNat:Int)) - 240)) 1)
 (some (0,0)))
 (some (0,0)))))
theorem Q5n {N} {s_0} {at_1} {r} (h:W7 N s_0 at_1=some r):pU 132 [.str s_0,.int .i64 at_1] (.tuple [.int .i64 r.1,.int .i64 r.2]):=by
 refine Q2 Zau ?_;unfold W7 at h;rw [cX] at h;refine xB h fun b1 h=>?_;refine iL2 h fun h=>?_;apply iU h<;>intro h
 ·apply iU h<;>intro h
  ·refine lpH (τ:=Int×Int) (fun ⟨n15,i17⟩=>(iS s_0::iI at_1::a4 (iI n15::iI 2::iI 128::iI i17::a16 (a16 (a16 (a16 (a8 (.any :: [])))))):List AV)) (fun n0 ⟨n15,i17⟩=>Z5 N s_0 at_1 n0 n15 i17) ((wrap .i64 ((wrap .i64 (b1.toNat:Int)) - 192)),1) h fun n0 ⟨n15,i17⟩ h=>?_
   first | rw [Z5] at h | simp only [Z5] at h
   rw [cX] at h;apply iU h<;>intro h
   ·refine cP h Yv p2 fun v19 h=>?_;refine iL2 h fun h=>?_;show Exists _;exact ⟨(n0,(wrap .i64 ((wrap .i64 (64 * n15))+v19.1)),(wrap .i64 (i17+1))),h,Lf _,(fun i=>i),Ya⟩
   refine iL2 h fun h=>?_;refine iL2 h fun h=>?_;refine iR2 h fun h=>?_;exact iB2 h
  apply iU h<;>intro h
  ·apply iU h<;>intro h
   ·refine lpH (τ:=Int×Int) (fun ⟨n38,i39⟩=>(iS s_0::iI at_1::a4 (iI n38::iI 3::iI 2048::iI i39::a16 (a16 (a16 (a16 (a8 (.any :: [])))))):List AV)) (fun n1 ⟨n38,i39⟩=>Z6 N s_0 at_1 n1 n38 i39) ((wrap .i64 ((wrap .i64 (b1.toNat:Int)) - 224)),1) h fun n1 ⟨n38,i39⟩ h=>?_
    first | rw [Z6] at h | simp only [Z6] at h
    rw [cX] at h;apply iU h<;>intro h
    ·refine cP h Yv p2 fun v41 h=>?_;refine iL2 h fun h=>?_;show Exists _;exact ⟨(n1,(wrap .i64 ((wrap .i64 (64 * n38))+v41.1)),(wrap .i64 (i39+1))),h,Lf _,(fun i=>i),Ya⟩
    refine iL2 h fun h=>?_;refine iL2 h fun h=>?_;refine iR2 h fun h=>?_;exact iB2 h
   refine iR2 h fun h=>?_;refine iR2 h fun h=>?_;refine lpH (τ:=Int×Int) (fun ⟨n59,i60⟩=>(iS s_0::iI at_1::a4 (iI n59::iI 4::iI 65536::iI i60::a16 (a16 (a16 (a16 (a8 (.any :: [])))))):List AV)) (fun n2 ⟨n59,i60⟩=>Z7 N s_0 at_1 n2 n59 i60) ((wrap .i64 ((wrap .i64 (b1.toNat:Int)) - 240)),1) h fun n2 ⟨n59,i60⟩ h=>?_
   first | rw [Z7] at h | simp only [Z7] at h
   rw [cX] at h;apply iU h<;>intro h
   ·refine cP h Yv p2 fun v62 h=>?_;refine iL2 h fun h=>?_;show Exists _;exact ⟨(n2,(wrap .i64 ((wrap .i64 (64 * n59))+v62.1)),(wrap .i64 (i60+1))),h,Lf _,(fun i=>i),Ya⟩
   refine iL2 h fun h=>?_;refine iL2 h fun h=>?_;refine iR2 h fun h=>?_;exact iB2 h
  refine iR2 h fun h=>?_;refine iR2 h fun h=>?_;refine lpH (τ:=Int×Int) (fun ⟨n80,i81⟩=>(iS s_0::iI at_1::a4 (iI n80::iI 4::iI 65536::iI i81::a16 (a16 (a16 (a16 (a8 (.any :: [])))))):List AV)) (fun n3 ⟨n80,i81⟩=>W8 N s_0 at_1 n3 n80 i81) ((wrap .i64 ((wrap .i64 (b1.toNat:Int)) - 240)),1) h fun n3 ⟨n80,i81⟩ h=>?_
  first | rw [W8] at h | simp only [W8] at h
  rw [cX] at h;apply iU h<;>intro h
  ·refine cP h Yv p2 fun v83 h=>?_;refine iL2 h fun h=>?_;show Exists _;exact ⟨(n3,(wrap .i64 ((wrap .i64 (64 * n80))+v83.1)),(wrap .i64 (i81+1))),h,Lf _,(fun i=>i),Ya⟩
  refine iL2 h fun h=>?_;refine iL2 h fun h=>?_;refine iR2 h fun h=>?_;exact iB2 h
 apply iU h<;>intro h
 ·apply iU h<;>intro h
  ·refine lpH (τ:=Int×Int) (fun ⟨n101,i102⟩=>(iS s_0::iI at_1::a4 (iI n101::iI 3::iI 2048::iI i102::a16 (a16 (a16 (a16 (a8 (.any :: [])))))):List AV)) (fun n4 ⟨n101,i102⟩=>W2 N s_0 at_1 n4 n101 i102) ((wrap .i64 ((wrap .i64 (b1.toNat:Int)) - 224)),1) h fun n4 ⟨n101,i102⟩ h=>?_
   first | rw [W2] at h | simp only [W2] at h
   rw [cX] at h;apply iU h<;>intro h
   ·refine cP h Yv p2 fun v104 h=>?_;refine iL2 h fun h=>?_;show Exists _;exact ⟨(n4,(wrap .i64 ((wrap .i64 (64 * n101))+v104.1)),(wrap .i64 (i102+1))),h,Lf _,(fun i=>i),Ya⟩
   refine iL2 h fun h=>?_;refine iL2 h fun h=>?_;refine iR2 h fun h=>?_;exact iB2 h
  refine iR2 h fun h=>?_;refine iR2 h fun h=>?_;refine lpH (τ:=Int×Int) (fun ⟨n122,i123⟩=>(iS s_0::iI at_1::a4 (iI n122::iI 4::iI 65536::iI i123::a16 (a16 (a16 (a16 (a8 (.any :: [])))))):List AV)) (fun n5 ⟨n122,i123⟩=>W9 N s_0 at_1 n5 n122 i123) ((wrap .i64 ((wrap .i64 (b1.toNat:Int)) - 240)),1) h fun n5 ⟨n122,i123⟩ h=>?_
  first | rw [W9] at h | simp only [W9] at h
  rw [cX] at h;apply iU h<;>intro h
  ·refine cP h Yv p2 fun v125 h=>?_;refine iL2 h fun h=>?_;show Exists _;exact ⟨(n5,(wrap .i64 ((wrap .i64 (64 * n122))+v125.1)),(wrap .i64 (i123+1))),h,Lf _,(fun i=>i),Ya⟩
  refine iL2 h fun h=>?_;refine iL2 h fun h=>?_;refine iR2 h fun h=>?_;exact iB2 h
 refine iR2 h fun h=>?_;refine iR2 h fun h=>?_;refine lpH (τ:=Int×Int) (fun ⟨n143,i144⟩=>(iS s_0::iI at_1::a4 (iI n143::iI 4::iI 65536::iI i144::a16 (a16 (a16 (a16 (a8 (.any :: [])))))):List AV)) (fun n6 ⟨n143,i144⟩=>W4 N s_0 at_1 n6 n143 i144) ((wrap .i64 ((wrap .i64 (b1.toNat:Int)) - 240)),1) h fun n6 ⟨n143,i144⟩ h=>?_
 first | rw [W4] at h | simp only [W4] at h
 rw [cX] at h;apply iU h<;>intro h
 ·refine cP h Yv p2 fun v146 h=>?_;refine iL2 h fun h=>?_;show Exists _;exact ⟨(n6,(wrap .i64 ((wrap .i64 (64 * n143))+v146.1)),(wrap .i64 (i144+1))),h,Lf _,(fun i=>i),Ya⟩
 refine iL2 h fun h=>?_;refine iL2 h fun h=>?_;refine iR2 h fun h=>?_;exact iB2 h
def X6 (N:Nat) (s_0:List UInt8):Nat→Int→Option Int
 | 0,_=>none
 | n+1,at12=>
  cond (Q4 .lss at12 (s_0.length:Int))
  ((W7 N s_0 at12).bind fun v14=>
  cond (Q4 .eql v14.2 0)
  (some at12)
  (cond (Q4 .eql v14.1 0)
  (some at12)
  (X6 N s_0 n (wrap .i64 (at12+v14.2)))))
  (some (-1))
def Jv (N:Nat) (s_0:List UInt8):Option Int:=
 X6 N s_0 N 0
theorem Q71 {N} {s_0} {r} (h:Jv N s_0=some r):pU 104 [.str s_0] (.int .i64 r):=by
 refine Q2 Zc5 ?_;unfold Jv at h;refine lpH (τ:=Int) (fun at12=>(iS s_0 :: .any :: .any::iI at12::a16 (a4 (a2 ([]))):List AV)) (fun n0 at12=>X6 N s_0 n0 at12) (0) h fun n0 at12 h=>?_
 first | rw [X6] at h | simp only [X6] at h
 rw [cX] at h;refine iR h fun h=>?_;refine cP h Q5n p2 fun v14 h=>?_;refine iL h fun h=>?_;refine iL h fun h=>?_;show Exists _;exact ⟨(n0,(wrap .i64 (at12+v14.2))),h,Lf _,(fun i=>i),Ya⟩
def Wb (N:Nat) (s_0:List UInt8):Option Bool:=
 cond (Q4 .leq (s_0.length:Int) 65535)
 ((Jv N s_0).bind fun v2=>
 some (Q4 .lss v2 0))
 (some false)
theorem Je {N} {s_0} {r} (h:Wb N s_0=some r):pU 80 [.str s_0] (.bool r):=by
 refine Q2 k80 ?_;unfold Wb at h;rw [cX] at h;refine iR h fun h=>?_;refine cP h Q71 p1 fun v2 h=>?_;cases h;exact (.p _)
def Xv (N:Nat) (s_0:List UInt8) (c:Int):Nat→Int→Option Bool
 | 0,_=>none
 | n+1,i10=>
  cond (Q4 .lss i10 (s_0.length:Int))
  ((idx s_0 i10).bind fun b12=>
  cond (Q4 .eql (b12.toNat:Int) c)
  (some true)
  (Xv N s_0 c n (wrap .i64 (i10+1))))
  (some false)
def Uf (N:Nat) (s_0:List UInt8) (c:Int):Option Bool:=
 Xv N s_0 c N 0
theorem Q21 {N} {s_0} {c} {r} (h:Uf N s_0 c=some r):pU 81 [.str s_0,.int .u8 c] (.bool r):=by
 refine Q2 k81 ?_;unfold Uf at h;refine lpH (τ:=Int) (fun i10=>(iS s_0 :: .p (.int .u8 c)::a2 (.any::iI i10::a8 (a2 (.any :: []))):List AV)) (fun n0 i10=>Xv N s_0 c n0 i10) (0) h fun n0 i10 h=>?_
 first | rw [Xv] at h | simp only [Xv] at h
 rw [cX] at h;refine iR h fun h=>?_;refine xB h fun b12 h=>?_;refine iL h fun h=>?_;show Exists _;exact ⟨(n0,(wrap .i64 (i10+1))),h,Lf _,(fun i=>i),Ya⟩
def Yf (N:Nat) (s_0:List UInt8):Option Bool:=
 cond (G9 .neq s_0 [])
 ((Wb N s_0).bind fun v2=>
 cond v2
 ((Uf N s_0 43).bind fun v5=>
 cond (!v5)
 ((Uf N s_0 35).bind fun v8=>
 some (!v8))
 (some false))
 (some false))
 (some false)
theorem We {N} {s_0} {r} (h:Yf N s_0=some r):pU 38 [.str s_0] (.bool r):=by
 refine Q2 k38 ?_;unfold Yf at h;rw [cY] at h;refine iR h fun h=>?_;refine cP h Je p1 fun v2 h=>?_;refine iR h fun h=>?_;refine cP h Q21 p2 fun v5 h=>?_;refine iR h fun h=>?_;refine cP h Q21 p2 fun v8 h=>?_;cases h;exact (.p _)
def Qj (N:Nat) (client:List UInt8) (name:List UInt8) (v4:(List Zh)×Q3):Nat→Int→Int→Option ((Int×Bool×Int)×Q3)
 | 0,_,_=>none
 | n+1,free27,i28=>
  cond (Q4 .lss i28 ((Q8 Zh.cells v4.1).length:Int))
  ((idx v4.1 i28).bind fun y30=>
  cond (G9 .eql y30.Name name)
  ((idx v4.1 i28).bind fun y33=>
  some ((y33.ID,false,0),v4.2))
  ((idx v4.1 i28).bind fun y35=>
  cond (Q4 .eql y35.ID free27)
  (Qj N client name v4 n (wrap .i64 (free27+1)) (wrap .i64 (i28+1)))
  (Qj N client name v4 n free27 (wrap .i64 (i28+1)))))
  (cond (Q4 .gtr free27 65534)
  (some ((0,false,12),v4.2))
  ((V2 N v4.1 (⟨free27,name,false⟩:Zh)).bind fun v39=>
  (Ye N v4.2 client v39).bind fun v41=>
  some ((free27,true,0),v41.2)))
def Zo (N:Nat) (r_0:Q3) (client:List UInt8) (name:List UInt8):Option ((Int×Bool×Int)×Q3):=
 (Yf N name).bind fun v1=>
 cond (!v1)
 (some ((0,false,10),r_0))
 ((Zy N r_0 client).bind fun v4=>
 Qj N client name v4 N 1 0)
theorem Q0n {N} {r_0} {client} {name} {r} (h:Zo N r_0 client name=some r):Qpj Tryz.prog G1 26 (Q3.cells r_0) [.str client,.str name] (.tuple [.int .i64 r.1.1,.bool r.1.2.1,.int .i64 r.1.2.2]) (Q3.cells r.2):=by
 refine Q5e k26 ?_;unfold Zo at h;refine cP h We p1 fun v1 h=>?_;apply iU h<;>intro h
 ·obtain rfl:=Qn h;exact ⟨_,_,rfl,p1,u3⟩
 refine cM h Uo rfl p1 fun v4 h=>?_;refine lpH (τ:=Int×Int) (fun ⟨free27,i28⟩=>(.ptr 0 0::iS client::iS name::a4 (a2 (.p (.slice 3 (Q8 Zh.cells v4.1))::iI free27::iI i28::a16 (a16 (a8 (a4 ([])))))):List AV)) (fun n0 ⟨free27,i28⟩=>Qj N client name v4 n0 free27 i28) (1,0) h fun n0 ⟨free27,i28⟩ h=>?_
 first | rw [Qj] at h | simp only [Qj] at h
 rw [cX,cY] at h;apply iU h<;>intro h
 ·refine xR h fun y30 h=>?_;apply iU h<;>intro h
  ·refine xR h fun y33 h=>?_;obtain rfl:=Qn h;exact ⟨_,_,rfl,p1,u3⟩
  refine xR h fun y35 h=>?_;apply iU h<;>intro h
  ·show Exists _;exact ⟨(n0,(wrap .i64 (free27+1)),(wrap .i64 (i28+1))),h,Lf _,(fun i=>i),Ya⟩
  show Exists _;exact ⟨(n0,free27,(wrap .i64 (i28+1))),h,Lf _,(fun i=>i),Ya⟩
 apply iU h<;>intro h
 ·obtain rfl:=Qn h;exact ⟨_,_,rfl,p1,u3⟩
 refine cP h Q20 (.cons (.p _) (.cons (Ar p3) .nil)) fun v39 h=>?_;refine cM h Ji rfl p2 fun v41 h=>?_;obtain rfl:=Qn h;exact ⟨_,_,rfl,p1,u3⟩
def Gu (N:Nat) (R:Reg) (c n:List UInt8) (id:Int):Option (Int×Reg):=(X4 N n).bind fun b=>some (Qtr b R c n id)
theorem Q9j {N R c n id r} (h:Gu N R c n id=some r):Q4p Tryz.prog G1 27 R [.str c,.str n,.int .i64 id] (.int .i64 r.1) r.2:=by
 obtain ⟨b,hb,h⟩:=Q1k h;cases h;exact Qxc (Xy hb)
def Qr (N:Nat) (client:List UInt8) (name:List UInt8) (id:Int) (v6:(List Zh)×Q3):Nat→Int→Option ((Int)×Q3)
 | 0,_=>none
 | n+1,i37=>
  cond (Q4 .lss i37 ((Q8 Zh.cells v6.1).length:Int))
  ((idx v6.1 i37).bind fun y39=>
  cond (Q4 .eql y39.ID id)
  (some (16,v6.2))
  ((idx v6.1 i37).bind fun y42=>
  cond (G9 .eql y42.Name name)
  (some (16,v6.2))
  (Qr N client name id v6 n (wrap .i64 (i37+1)))))
  ((V2 N v6.1 (⟨id,name,true⟩:Zh)).bind fun v45=>
  (Ye N v6.2 client v45).bind fun v47=>
  some (0,v47.2))
def Qx (N:Nat) (client:List UInt8) (name:List UInt8) (id:Int) (v6:(List Zh)×Q3):Nat→Int→Option ((Int)×Q3)
 | 0,_=>none
 | n+1,i17=>
  cond (Q4 .lss i17 ((Q8 Zh.cells v6.1).length:Int))
  ((idx v6.1 i17).bind fun y19=>
  cond (((y19.ID:Int) == id)&&(((y19.Name:List UInt8) == name)&&(((y19.Fixed:Bool) == true)&&true)))
  (some (0,v6.2))
  (Qx N client name id v6 n (wrap .i64 (i17+1))))
  (Qr N client name id v6 N 0)
def Zk (N:Nat) (r_0:Q3) (client:List UInt8) (name:List UInt8) (id:Int):Option ((Int)×Q3):=
 (Yf N name).bind fun v1=>
 cond (!v1)
 (some (10,r_0))
 (cond (Q4 .lss id 1)
 (some (2,r_0))
 (cond (Q4 .gtr id 65534)
 (some (2,r_0))
 ((Zy N r_0 client).bind fun v6=>
 Qx N client name id v6 N 0)))
theorem Q0k {N} {r_0} {client} {name} {id} {r} (h:Zk N r_0 client name id=some r):Qpj Tryz.prog G1 28 (Q3.cells r_0) [.str client,.str name,.int .i64 id] (.int .i64 r.1) (Q3.cells r.2):=by
 refine Q5e k28 ?_;unfold Zk at h;rw [cX] at h;refine cP h We p1 fun v1 h=>?_;apply iU h<;>intro h
 ·obtain rfl:=Qn h;exact ⟨_,_,rfl,p1,(.p _)⟩
 apply iU h<;>intro h
 ·obtain rfl:=Qn h;exact ⟨_,_,rfl,p1,(.p _)⟩
 apply iU h<;>intro h
 ·obtain rfl:=Qn h;exact ⟨_,_,rfl,p1,(.p _)⟩
 refine cM h Uo rfl p1 fun v6 h=>?_;refine lpH (τ:=Int) (fun i17=>(.ptr 0 0::iS client::iS name::iI id::a4 (.any :: .p (.slice 3 (Q8 Zh.cells v6.1)) :: .ptr 1 0::iI i17::a16 (a16 (a16 (a8 (a2 ([])))))):List AV)) (fun n0 i17=>Qx N client name id v6 n0 i17) (0) h fun n0 i17 h=>?_
 first | rw [Qx] at h | simp only [Qx] at h
 rw [cX] at h;apply iU h<;>intro h
 ·refine Qp ?_;refine xR h fun y19 h=>?_;apply iU h<;>intro h
  ·obtain rfl:=Qn h;exact ⟨_,_,rfl,p1,(.p _)⟩
  show Exists _;exact ⟨(n0,(wrap .i64 (i17+1))),h,Lf _,(fun i=>i),Ya⟩
 refine lpH (τ:=Int) (fun i37=>(.ptr 0 0::iS client::iS name::iI id::a4 (.any :: .p (.slice 3 (Q8 Zh.cells v6.1)) :: .ptr 1 0 :: .any::iI i37::a16 (a16 (a16 (a8 (.any :: []))))):List AV)) (fun n1 i37=>Qr N client name id v6 n1 i37) (0) h fun n1 i37 h=>?_
 first | rw [Qr] at h | simp only [Qr] at h
 rw [cX,cY] at h;apply iU h<;>intro h
 ·refine xR h fun y39 h=>?_;apply iU h<;>intro h
  ·obtain rfl:=Qn h;exact ⟨_,_,rfl,p1,(.p _)⟩
  refine xR h fun y42 h=>?_;apply iU h<;>intro h
  ·obtain rfl:=Qn h;exact ⟨_,_,rfl,p1,(.p _)⟩
  show Exists _;exact ⟨(n1,(wrap .i64 (i37+1))),h,Lf _,(fun i=>i),Ya⟩
 refine cP h Q20 (.cons (.p _) (.cons (Ar p3) .nil)) fun v45 h=>?_;refine cM h Ji rfl p2 fun v47 h=>?_;obtain rfl:=Qn h;exact ⟨_,_,rfl,p1,(.p _)⟩
def Q4a (N:Nat) (p:Qu):Option (Qu):=
 (Q6a N p.Codes).bind fun v1=>
 (Q2n N p.Filters).bind fun v3=>
 (Q16 N p.Props).bind fun v5=>
 (Q16 N p.Will.Props).bind fun v7=>
 some (⟨p.Kind,p.Dup,p.Retain,p.QoS,p.ID,p.Topic,p.Payload,p.Clean,p.KeepAlive,p.Client,p.HasUser,p.User,p.HasPass,p.Pass,p.HasWill,(⟨p.Will.Topic,p.Will.Payload,p.Will.QoS,p.Will.Retain,v7⟩:J2),p.Session,p.Code,v1,v3,v5⟩:Qu)
theorem Qct {N} {p} {r} (h:Q4a N p=some r):gU 74 (.p (.agg (Qu.cells p)) :: []) [] (.agg (Qro r (.slice 4 0 0 r.Will.Props.length) (.slice 1 1 0 r.Codes.length) (.slice 5 2 0 r.Filters.length) (.slice 4 3 0 r.Props.length))) (.cells (Wo Qk.cells r.Will.Props) :: .cells (Wo (cI .i64) r.Codes) :: .cells (Wo Z0.cells r.Filters) :: .cells (Wo Qk.cells r.Props) :: []):=by
 refine Ul k74 (Ls rfl) ?_;unfold Q4a at h;refine Qp ?_;refine dcO h Qel [2] (fun v1 => .slice 1 2 0 v1.length) (rE rfl <| rN) fun v1 h=>?_;refine dcO h Q9r [3] (fun v3 => .slice 5 3 0 v3.length) (rE rfl <| rN) fun v3 h=>?_;refine Qp ?_;refine dcO h Q2z [4] (fun v5 => .slice 4 4 0 v5.length) (rE rfl <| rN) fun v5 h=>?_;refine dcO h Q2z [5] (fun v7 => .slice 4 5 0 v7.length) (rE rfl <| rN) fun v7 h=>?_;obtain rfl:=Qn h;show Exists _;exact ⟨(rho [5,2,3,4]),⟨(rG (rE rfl <| rE rfl <| rE rfl <| rE rfl <| rE rfl <| rE rfl <| rE rfl <| rE rfl <| rE rfl <| rE rfl <| rE rfl <| rE rfl <| rE rfl <| rE rfl <| rE rfl <| rE rfl <| rE rfl <| rE rfl <| rE rfl <| rE rfl <| rE rfl <| rE rfl <| rE rfl <| rE rfl <| rE rfl <| rN) <| rN),(hO rfl <| hO rfl <| hO rfl <| hO rfl <| hN),rfl,rfl,(roE (Js _ _ _) <| roE (Js _ _ _) <| roE (Js _ _ _) <| roE (Js _ _ _) <| roN)⟩⟩
def Uv (rz:Q0→Option Q0) (N:Nat) (v:Q0):Nat→Int→(List Q0)→Option Q0
 | 0,_,_=>none
 | n+1,s14,l15=>
  cond (Q4 .lss s14 ((Q0.rows v.Items).length:Int))
  ((idx v.Items s14).bind fun y17=>
  (rz y17).bind fun v19=>
  cond (Nat.ble ((l15.length+1+4096) * 56) 17592186044416) (Uv rz N v n (wrap .i64 (s14+1)) (l15 ++ [v19])) none)
  (some (⟨v.Kind,v.N',v.Text,l15⟩:Q0))
def Q41 (rz:Q0→Option Q0) (N:Nat) (v:Q0):Option Q0:=
 Uv rz N v N 0 []
theorem Qac {rz:Q0→Option Q0} (hy1:∀ {v} {r},rz v=some r→pU 75 [.agg (Q0.cells v)] (.agg (Q0.cells r))) {N} {v} {r} (h:Q41 rz N v=some r):pU 75 [.agg (Q0.cells v)] (.agg (Q0.cells r)):=by
 refine Q2 k75 ?_;unfold Q41 at h;refine lpA (τ:=Int×(List Q0)) (fun ⟨s14,_⟩=>(.any :: .any :: .ptr 1 0 :: .ptr 2 0::a8 (a2 (.p (.slice 4 (Q0.rows v.Items))::iI ((Q0.rows v.Items).length:Int)::iI s14::a8 (a4 ([])))):List AV)) (fun ⟨_,l15⟩=>(.cells (iI v.Kind::iW v.N'::iS v.Text :: .p (.slice 4 (Q0.rows v.Items)) :: []) :: .cells (iI 0::iW 0::iS [] :: .p .nilSlice :: []) :: .cells (iI v.Kind::iW v.N'::iS v.Text :: .slice 4 3 0 l15.length :: []) :: .cells (Wo Q0.cells l15) :: []:List AObj)) (fun n0 ⟨s14,l15⟩=>Uv rz N v n0 s14 l15) (0,[]) h fun n0 ⟨s14,l15⟩ h=>?_
 first | rw [Uv] at h | simp only [Uv] at h
 rw [cX] at h;apply iU h<;>intro h
 ·refine Q0.xR h fun y17 h=>?_;refine Qp ?_;refine cD h hy1 (.cons q4 .nil) fun v19 h=>?_;obtain ⟨hk21,h⟩:=Q59 h;refine Q3b (Xk (c:=Q0.cells) (e:=4) (fun _=>rfl) sd hk21) ?_;refine Un (c:=Q0.cells) [v19] rfl ?_;show Exists _;exact ⟨(n0,(wrap .i64 (s14+1)),(l15 ++ [v19])),h,Lf _,(rho [0,1,2,6]),Ya⟩
 obtain rfl:=Qn h;exact (Ar (f2_ (f1_ (.cons (Q0.frz_own (l:=l15) rfl trivial sd) .nil))))
def Q1h:Nat→Q0→Option Q0
 | 0=>fun _=>none
 | N+1=>Q41 (Q1h N) N
theorem Qag {N} {v} {r} (h:Q1h N v=some r):pU 75 [.agg (Q0.cells v)] (.agg (Q0.cells r)):=by
 induction N generalizing v r with
 | zero=>simp [Q1h] at h
 | succ N ih=>exact Qac (fun h=>ih h) h
def Q01 (N:Nat) (e:Qf) (v1:List Qk) (v3:List Vd) (v5:Qu):Nat→Int→(List Q0)→Option Qf
 | 0,_,_=>none
 | n+1,s20,l21=>
  cond (Q4 .lss s20 ((Q0.rows e.Frame.Values).length:Int))
  ((idx e.Frame.Values s20).bind fun y23=>
  (Q1h N y23).bind fun v25=>
  cond (Nat.ble ((l21.length+1+4096) * 56) 17592186044416) (Q01 N e v1 v3 v5 n (wrap .i64 (s20+1)) (l21 ++ [v25])) none)
  (some (⟨e.Proto,e.Kind,e.Topic,e.Payload,e.QoS,e.Retain,e.Dup,e.ID,v1,e.Type',v3,e.Channel,v5,e.Msg,(⟨e.Frame.Type',e.Frame.Channel,e.Frame.Ext,l21⟩:Zn)⟩:Qf))
def Vh (N:Nat) (e:Qf):Option Qf:=
 (Q16 N e.Props).bind fun v1=>
 (Q13 N e.Hops).bind fun v3=>
 (Q4a N e.Packet).bind fun v5=>
 Q01 N e v1 v3 v5 N 0 []
theorem Q1i {N} {e} {r} (h:Vh N e=some r):pU 32 [.agg (Qf.cells e)] (.agg (Qf.cells r)):=by
 refine Q2 k32 ?_;unfold Vh at h;refine cO h Q2z (fun v1 => .slice 4 3 0 v1.length) (rE rfl <| rN) fun v1 h=>?_;refine cO h Q7r (fun v3 => .slice 2 4 0 v3.length) (rE rfl <| rN) fun v3 h=>?_;refine cO h Qct (fun v5 => .agg (Qqf v5 (.slice 4 5 0 v5.Will.Props.length) (.slice 1 6 0 v5.Codes.length) (.slice 5 7 0 v5.Filters.length) (.slice 4 8 0 v5.Props.length))) (rF (Ar (Xd (f2_ (f1_ (.cons (.p _) p5))))) <| rN) fun v5 h=>?_;refine lpA (τ:=Int×(List Q0)) (fun ⟨s20,_⟩=>(.any :: .any :: .ptr 1 0 :: .ptr 2 0::a16 (a2 (.any :: .p (.slice 4 (Q0.rows e.Frame.Values))::iI ((Q0.rows e.Frame.Values).length:Int)::iI s20::a8 (a4 (a2 ([]))))):List AV)) (fun ⟨_,l21⟩=>(.cells (Q1t e ([])) :: .cells (iI 0::iI 0::iS []::iS []::iI 0 :: .p (.bool false) :: .p (.bool false)::iI 0 :: .p .nilSlice::iI 0 :: .p .nilSlice::iI 0::iI 0 :: .p (.bool false) :: .p (.bool false)::iI 0::iI 0::iS []::iS [] :: .p (.bool false)::iI 0::iS [] :: .p (.bool false)::iS [] :: .p (.bool false)::iS [] :: .p (.bool false)::iS []::iS []::iI 0 :: .p (.bool false) :: .p .nilSlice :: .p (.bool false)::iI 0 :: .p .nilSlice :: .p .nilSlice :: .p .nilSlice::iI 0 :: .p (.bool false)::iI 0 :: .p (.bool false) :: .p (.bool false) :: .p (.bool false)::iI 0::iI 0::iI 0::iI 0 :: .p (.bool false)::iI 0::iI 0::iI 0::iS []::iS []::iI 0::iI 0::iS [] :: .p .nilSlice :: []) :: .cells (iI e.Proto::iI e.Kind::iS e.Topic::iS e.Payload::iI e.QoS :: .p (.bool e.Retain) :: .p (.bool e.Dup)::iI e.ID :: .slice 4 3 0 v1.length::iI e.Type' :: .slice 2 4 0 v3.length::iI e.Channel::Qpy v5 (.slice 4 5 0 v5.Will.Props.length) (.slice 1 6 0 v5.Codes.length) (.slice 5 7 0 v5.Filters.length) (.slice 4 8 0 v5.Props.length) (Qfl e.Msg (iI e.Frame.Type'::iI e.Frame.Channel::iS e.Frame.Ext :: .slice 4 9 0 l21.length :: []))) :: .cells (Wo Qk.cells v1) :: .cells (Wo Vd.cells v3) :: .cells (Wo Qk.cells v5.Will.Props) :: .cells (Wo (cI .i64) v5.Codes) :: .cells (Wo Z0.cells v5.Filters) :: .cells (Wo Qk.cells v5.Props) :: .cells (Wo Q0.cells l21) :: []:List AObj)) (fun n0 ⟨s20,l21⟩=>Q01 N e v1 v3 v5 n0 s20 l21) (0,[]) h fun n0 ⟨s20,l21⟩ h=>?_
 first | rw [Q01] at h | simp only [Q01] at h
 rw [cX] at h;apply iU h<;>intro h
 ·refine Q0.xR h fun y23 h=>?_;refine Qp ?_;refine cD h Qag (.cons q4 .nil) fun v25 h=>?_;obtain ⟨hk27,h⟩:=Q59 h;refine Q3b (Xk (c:=Q0.cells) (e:=4) (fun _=>rfl) sd hk27) ?_;refine Un (c:=Q0.cells) [v25] rfl ?_;show Exists _;exact ⟨(n0,(wrap .i64 (s20+1)),(l21 ++ [v25])),h,Lf _,(rho [0,1,2,3,4,5,6,7,8,12]),Ya⟩
 obtain rfl:=Qn h;exact (Ar (f8_ (.cons (frz_own (c:=Qk.cells) (l:=(v1:List Qk)) (fun _=>rfl) rfl trivial sd) (.cons (.p _) (.cons (frz_own (c:=Vd.cells) (l:=(v3:List Vd)) (fun _=>rfl) rfl trivial sd) (Xd (f4_ (.cons (frz_own (c:=Qk.cells) (l:=(v5.Will.Props:List Qk)) (fun _=>rfl) rfl trivial sd) (f2_ (.cons (frz_own (c:=(cI .i64)) (l:=(v5.Codes:List Int)) (fun _=>rfl) rfl trivial sd) (.cons (frz_own (c:=Z0.cells) (l:=(v5.Filters:List Z0)) (fun _=>rfl) rfl trivial sd) (.cons (frz_own (c:=Qk.cells) (l:=(v5.Props:List Qk)) (fun _=>rfl) rfl trivial sd) (Xd (f2_ (f1_ (.cons (Q0.frz_own (l:=l21) rfl trivial sd) .nil))))))))))))))))
def Qcl (_N:Nat) (R:Reg) (c n:List UInt8):Option ((Int×Int)×Reg):=some (rID R c n,R)
theorem Q8w {N R c n r} (h:Qcl N R c n=some r):Q4p Tryz.prog G1 17 R [.str c,.str n] (.tuple [.int .i64 r.1.1,.int .i64 r.1.2]) r.2:=by cases h;exact Z0d
def Q6j (_N:Nat) (R:Reg) (c:List UInt8) (id:Int):Option (Bool×Reg):=some (Q9x R c id,R)
theorem Q4x {N R c id r} (h:Q6j N R c id=some r):Q4p Tryz.prog G1 54 R [.str c,.int .i64 id] (.bool r.1) r.2:=by cases h;exact Qra
def Q0r (N:Nat) (s_0:List UInt8):Nat→Int→Int→Option Int
 | 0,_,_=>none
 | n+1,n12,s13=>
  cond (Q4 .lss s13 (((s_0.take s_0.length).drop ((wrap .i64 ((s_0.length:Int) - 8)).toNat)).length:Int))
  ((idx ((s_0.take s_0.length).drop ((wrap .i64 ((s_0.length:Int) - 8)).toNat)) s13).bind fun b15=>
  Q0r N s_0 n (orI .u64 (Qi7 .u64 n12 8) (wrap .u64 (b15.toNat:Int))) (wrap .i64 (s13+1)))
  (some n12)
def Q0o (N:Nat) (s_0:List UInt8):Nat→Int→Int→Option Int
 | 0,_,_=>none
 | n+1,n25,s26=>
  cond (Q4 .lss s26 (s_0.length:Int))
  ((idx s_0 s26).bind fun b28=>
  Q0o N s_0 n (orI .u64 (Qi7 .u64 n25 8) (wrap .u64 (b28.toNat:Int))) (wrap .i64 (s26+1)))
  (some n25)
def Q0x (N:Nat) (s_0:List UInt8):Option Int:=
 cond (Q4 .gtr (s_0.length:Int) 8)
 (cond (decide (0≤(wrap .i64 ((s_0.length:Int) - 8)))) (cond (Nat.ble (wrap .i64 ((s_0.length:Int) - 8)).toNat s_0.length&&Nat.ble s_0.length s_0.length) (Q0r N s_0 N 0 0) none) none)
 (Q0o N s_0 N 0 0)
theorem Q2i {N} {s_0} {r} (h:Q0x N s_0=some r):pU 119 [.str s_0] (.int .u64 r):=by
 refine Q2 Zdi ?_;unfold Q0x at h;rw [cX] at h;apply iU h<;>intro h
 ·refine kU h fun h=>?_;refine kU h fun h=>?_;refine lpH (τ:=Int×Int) (fun ⟨n12,s13⟩=>(.p (.str ((s_0.take s_0.length).drop ((wrap .i64 ((s_0.length:Int) - 8)).toNat))) :: .any :: .any::iW n12::a8 (a2 (.p (.int .i64 (((s_0.take s_0.length).drop ((wrap .i64 ((s_0.length:Int) - 8)).toNat)).length:Int))::iI s13::a8 (a2 (.any :: [])))):List AV)) (fun n0 ⟨n12,s13⟩=>Q0r N s_0 n0 n12 s13) (0,0) h fun n0 ⟨n12,s13⟩ h=>?_
  first | rw [Q0r] at h | simp only [Q0r] at h
  rw [cX] at h;refine iR h fun h=>?_;refine xB h fun b15 h=>?_;show Exists _;exact ⟨(n0,(orI .u64 (Qi7 .u64 n12 8) (wrap .u64 (b15.toNat:Int))),(wrap .i64 (s13+1))),h,Lf _,(fun i=>i),Ya⟩
 refine lpH (τ:=Int×Int) (fun ⟨n25,s26⟩=>(iS s_0 :: .any :: .any::iW n25::a8 (a2 (iI (s_0.length:Int)::iI s26::a8 (a2 (.any :: [])))):List AV)) (fun n1 ⟨n25,s26⟩=>Q0o N s_0 n1 n25 s26) (0,0) h fun n1 ⟨n25,s26⟩ h=>?_
 first | rw [Q0o] at h | simp only [Q0o] at h
 rw [cX] at h;refine iR h fun h=>?_;refine xB h fun b28 h=>?_;show Exists _;exact ⟨(n1,(orI .u64 (Qi7 .u64 n25 8) (wrap .u64 (b28.toNat:Int))),(wrap .i64 (s26+1))),h,Lf _,(fun i=>i),Ya⟩
end
end
end Go.Av
