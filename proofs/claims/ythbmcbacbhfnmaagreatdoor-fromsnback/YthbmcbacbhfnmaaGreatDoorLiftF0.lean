/- Part of FromsnBack: the law returns true; no condition. -/
import Derived.Test.YthbmcbacbhfnmaaGreatDoorLiftTy
import Derived.Test.YthbmcbacbhfnmaaGreatDoorChks
import Derived.Test.YthbmcbacbhfnmaaGreatDoorSeat1
import Derived.Test.YthbmcbacbhfnmaaGreatDoorRegT
import Derived.Test.YthbmcbacbhfnmaaGreatDoorClosed5
import Derived.Test.YthbmcbacbhfnmaaGreatDoorLenT
import Derived.Test.YthbmcbacbhfnmaaGreatDoorTpTopE
import Derived.Test.YthbmcbacbhfnmaaGreatDoorTpKeysC
set_option linter.all false
open Go.IntKind (wrap)
namespace Go.Av
noncomputable section
open Go.Proofs
set_option maxRecDepth 100000
set_option maxHeartbeats 4000000
attribute [local irreducible] Wz Qq Qaj Qa1 Z03 Qpy Qjw
section
abbrev pU:=Qcp Tryz.prog G1
abbrev gU:=GC Tryz.prog G1
def Q6b (_N:Nat):Option Bool:=some true
def Q8p {N r} (h:Q6b N=some r):pU 4 [] (.bool r):=by cases h;exact Qov Qw1 (N:=4000) (d:=60) (by kernel_rfl)
def Xt (N:Nat) (l:List Qi):Nat->Int->Option Bool
 | 0,_=>none
 | n+1,i17=>
  cond (Q0 .lss i17 ((Q7 Qi.cells l).length:Int))
  ((idx l i17).bind fun y19=>
  cond (Q0 .gtr (y19.Client.length:Int) 100)
  (some false)
  ((idx l i17).bind fun y22=>
  cond (Q0 .gtr (y22.Name.length:Int) 200)
  (some false)
  (Xt N l n (wrap .i64 (i17+1)))))
  (some (Q0 .leq ((Q7 Qi.cells l).length:Int) 20))
def Q0k (N:Nat) (l:List Qi):Option Bool:=
 Xt N l N 0
def Q9a {N} {l} {r} (h:Q0k N l=some r):pU 5 [.slice 3 (Q7 Qi.cells l)] (.bool r):=by
 refine Q1 k5 ?_;unfold Q0k at h;refine lpH (τ:=Int) (fun i17=>(.p (.slice 3 (Q7 Qi.cells l)) :: .any :: .any::iI i17::a16 (a8 (.any :: [])):List AV)) (fun n0 i17=>Xt N l n0 i17) (0) h fun n0 i17 h=>?_
 first | rw [Xt] at h | simp only [Xt] at h
 exact eN
def Q2g (_N:Nat) (m:Xl):Option Bool:=
 cond (Q0 .leq (m.Name.length:Int) 70000)
 (some (Q0 .leq (m.Data.length:Int) 70000))
 (some false)
def Q8j {N} {m} {r} (h:Q2g N m=some r):pU 24 [.agg (Xl.cells m)] (.bool r):=by
 refine Q1 k24 ?_;unfold Q2g at h;exact jh
def Y7 (N:Nat) (d:Qb):Nat->Int->Option Bool
 | 0,_=>none
 | n+1,i14=>
  cond (Q0 .lss i14 ((Q7 Vc.cells d.Hops).length:Int))
  ((idx d.Hops i14).bind fun y16=>
  cond (Q0 .gtr (y16.Node.length:Int) 300)
  (some false)
  (Y7 N d n (wrap .i64 (i14+1))))
  (some true)
def Ww (N:Nat) (d:Qb):Option Bool:=
 cond (Q0 .gtr ((Q7 Vc.cells d.Hops).length:Int) 8)
 (some false)
 ((Q2g N d.Msg).bind fun v2=>
 cond (!v2)
 (some false)
 (Y7 N d N 0))
def Q1l {N} {d} {r} (h:Ww N d=some r):pU 6 [.agg (Qb.cells d)] (.bool r):=by
 refine Q1 k6 ?_;unfold Ww at h;rw [cX] at h;refine iL h fun h=>cP h Q8j (.cons (Ar (f8_ (f2_ (.cons (.p _) p5)))) .nil) fun v2 h=>iL h fun h=>lpH (τ:=Int) (fun i14=>(.any :: .ptr 0 0 :: .any::iI i14::a16 (a8 (.any :: [])):List AV)) (fun n0 i14=>Y7 N d n0 i14) (0) h fun n0 i14 h=>?_
 first | rw [Y7] at h | simp only [Y7] at h
 rw [cX] at h;refine iR h fun h=>xR h fun y16 h=>iL h fun h=>?_;exact gE
def Yv (N:Nat) (l:List Z5):Nat->Int->Option Bool
 | 0,_=>none
 | n+1,i17=>
  cond (Q0 .lss i17 ((Q7 Z5.cells l).length:Int))
  ((idx l i17).bind fun y19=>
  cond (Q0 .gtr (y19.Text.length:Int) 300)
  (some false)
  ((idx l i17).bind fun y22=>
  cond (Q0 .gtr (y22.Value.length:Int) 300)
  (some false)
  (Yv N l n (wrap .i64 (i17+1)))))
  (some (Q0 .leq ((Q7 Z5.cells l).length:Int) 30))
def Zr (N:Nat) (l:List Z5):Option Bool:=
 Yv N l N 0
def Wu {N} {l} {r} (h:Zr N l=some r):pU 25 [.slice 4 (Q7 Z5.cells l)] (.bool r):=by
 refine Q1 k25 ?_;unfold Zr at h;refine lpH (τ:=Int) (fun i17=>(.p (.slice 4 (Q7 Z5.cells l)) :: .any :: .any::iI i17::a16 (a8 (.any :: [])):List AV)) (fun n0 i17=>Yv N l n0 i17) (0) h fun n0 i17 h=>?_
 first | rw [Yv] at h | simp only [Yv] at h
 exact eN
def Yr (N:Nat) (p:Zj):Nat->Int->Option Bool
 | 0,_=>none
 | n+1,i11=>
  cond (Q0 .lss i11 ((Q7 Yp.cells p.Filters).length:Int))
  (cond (Q0 .lss i11 31)
  ((idx p.Filters i11).bind fun y14=>
  cond (Q0 .gtr (y14.Topic.length:Int) 2000)
  (some false)
  (Yr N p n (wrap .i64 (i11+1))))
  (cond (Q0 .leq (p.Topic.length:Int) 2000)
  (cond (Q0 .leq (p.Payload.length:Int) 2000)
  (cond (Q0 .leq (p.Client.length:Int) 2000)
  (cond (Q0 .leq (p.User.length:Int) 2000)
  (cond (Q0 .leq (p.Pass.length:Int) 2000)
  (cond (Q0 .leq (p.Will.Topic.length:Int) 2000)
  (cond (Q0 .leq (p.Will.Payload.length:Int) 2000)
  (cond (Q0 .leq ((Q7 (cI .i64) p.Codes).length:Int) 30)
  (cond (Q0 .leq ((Q7 Yp.cells p.Filters).length:Int) 30)
  ((Zr N p.Props).bind fun v26=>
  cond v26
  ((Zr N p.Will.Props).bind fun v29=>
  some v29)
  (some false))
  (some false))
  (some false))
  (some false))
  (some false))
  (some false))
  (some false))
  (some false))
  (some false))
  (some false)))
  (cond (Q0 .leq (p.Topic.length:Int) 2000)
  (cond (Q0 .leq (p.Payload.length:Int) 2000)
  (cond (Q0 .leq (p.Client.length:Int) 2000)
  (cond (Q0 .leq (p.User.length:Int) 2000)
  (cond (Q0 .leq (p.Pass.length:Int) 2000)
  (cond (Q0 .leq (p.Will.Topic.length:Int) 2000)
  (cond (Q0 .leq (p.Will.Payload.length:Int) 2000)
  (cond (Q0 .leq ((Q7 (cI .i64) p.Codes).length:Int) 30)
  (cond (Q0 .leq ((Q7 Yp.cells p.Filters).length:Int) 30)
  ((Zr N p.Props).bind fun v40=>
  cond v40
  ((Zr N p.Will.Props).bind fun v43=>
  some v43)
  (some false))
  (some false))
  (some false))
  (some false))
  (some false))
  (some false))
  (some false))
  (some false))
  (some false))
  (some false))
def Jl (N:Nat) (p:Zj):Option Bool:=
 Yr N p N 0
def Q74 {N} {p} {r} (h:Jl N p=some r):pU 26 [.agg (Zj.cells p)] (.bool r):=by
 refine Q1 k26 ?_;unfold Jl at h;refine lpH (τ:=Int) (fun i11=>(.any :: .ptr 0 0 :: .any::iI i11::a16 (a16 (a16 (a16 (a16 (a4 ([])))))):List AV)) (fun n0 i11=>Yr N p n0 i11) (0) h fun n0 i11 h=>?_
 first | rw [Yr] at h | simp only [Yr] at h
 rw [cX] at h;apply iU h<;>intro h
 ·apply iU h<;>intro h
  ·refine xR h fun y14 h=>iL h fun h=>?_;show Exists _;exact ⟨(n0,(wrap .i64 (i11+1))),h,Lc _,(fun i=>i),Z6⟩
  refine iR h fun h=>iR h fun h=>iR h fun h=>iR h fun h=>iR h fun h=>iR h fun h=>iR h fun h=>iR h fun h=>iR h fun h=>cP h Wu p1 fun v26 h=>iR h fun h=>cP h Wu p1 fun v29 h=>?_;exact am
 refine iR h fun h=>iR h fun h=>iR h fun h=>iR h fun h=>iR h fun h=>iR h fun h=>iR h fun h=>iR h fun h=>iR h fun h=>cP h Wu p1 fun v40 h=>iR h fun h=>cP h Wu p1 fun v43 h=>?_;exact am
def Yw (rz:Q4->Int->Int->Option Int) (N:Nat) (v:Q4) (deep:Int) (most:Int):Nat->Int->Int->Option Int
 | 0,_,_=>none
 | n+1,n18,i19=>
  cond (Q0 .lss i19 ((Q4.rows v.Items).length:Int))
  (cond (Q0 .leq n18 most)
  ((idx v.Items i19).bind fun y22=>
  (rz y22 (wrap .i64 (deep - 1)) (wrap .i64 (most - n18))).bind fun v24=>
  Yw rz N v deep most n (wrap .i64 (n18+v24)) (wrap .i64 (i19+1)))
  (some n18))
  (some n18)
def Gx (rz:Q4->Int->Int->Option Int) (N:Nat) (v:Q4) (deep:Int) (most:Int):Option Int:=
 cond (Q0 .lss deep 0)
 (some (wrap .i64 (most+1)))
 (cond (Q0 .gtr ((Q4.rows v.Items).length:Int) most)
 (some (wrap .i64 (most+1)))
 (cond (Q0 .gtr (v.Text.length:Int) 400)
 (some (wrap .i64 (most+1)))
 (Yw rz N v deep most N 1 0)))
def Qae {rz:Q4->Int->Int->Option Int} (hy1:∀ {v} {deep} {most} {r},rz v deep most=some r->pU 96 [.agg (Q4.cells v),.int .i64 deep,.int .i64 most] (.int .i64 r)) {N} {v} {deep} {most} {r} (h:Gx rz N v deep most=some r):pU 96 [.agg (Q4.cells v),.int .i64 deep,.int .i64 most] (.int .i64 r):=by
 refine Q1 k96 ?_;unfold Gx at h;rw [cX] at h;refine iL h fun h=>iL h fun h=>iL h fun h=>lpH (τ:=Int×Int) (fun ⟨n18,i19⟩=>(.any::iI deep::iI most :: .ptr 0 0::a2 (.any::iI n18::iI i19::a16 (a16 (a8 (a2 (.any :: []))))):List AV)) (fun n0 ⟨n18,i19⟩=>Yw rz N v deep most n0 n18 i19) (1,0) h fun n0 ⟨n18,i19⟩ h=>?_
 first | rw [Yw] at h | simp only [Yw] at h
 rw [cX] at h;refine iR h fun h=>iR h fun h=>Q4.xR h fun y22 h=>cP h hy1 (.cons q4 p2) fun v24 h=>?_;show Exists _;exact ⟨(n0,(wrap .i64 (n18+v24)),(wrap .i64 (i19+1))),h,Lc _,(fun i=>i),Z6⟩
def Yf:Nat->Q4->Int->Int->Option Int
 | 0=>fun _ _ _=>none
 | N+1=>Gx (Yf N) N
def Qah {N} {v} {deep} {most} {r} (h:Yf N v deep most=some r):pU 96 [.agg (Q4.cells v),.int .i64 deep,.int .i64 most] (.int .i64 r):=by
 induction N generalizing v deep most r with
 | zero=>simp [Yf] at h
 | succ N ih=>exact Qae (fun h=>ih h) h
def Vw (N:Nat) (v:Q4):Option Bool:=
 (Yf N v 6 40).bind fun v1=>
 some (Q0 .leq v1 40)
def Q7k {N} {v} {r} (h:Vw N v=some r):pU 57 [.agg (Q4.cells v)] (.bool r):=by
 refine Q1 k57 ?_;unfold Vw at h;rw [cX] at h;refine cP h Qah (.cons q4 p2) fun v1 h=>?_;exact am
def Y6 (N:Nat) (f:X9):Nat->Int->Option Bool
 | 0,_=>none
 | n+1,i17=>
  cond (Q0 .lss i17 ((Q4.rows f.Values).length:Int))
  ((idx f.Values i17).bind fun y19=>
  (Vw N y19).bind fun v21=>
  cond (!v21)
  (some false)
  (Y6 N f n (wrap .i64 (i17+1))))
  (some true)
def Xq (N:Nat) (f:X9):Option Bool:=
 cond (Q0 .gtr ((Q4.rows f.Values).length:Int) 6)
 (some false)
 (cond (Q0 .gtr (f.Ext.length:Int) 1100)
 (some false)
 (Y6 N f N 0))
def Q7m {N} {f} {r} (h:Xq N f=some r):pU 27 [.agg (X9.cells f)] (.bool r):=by
 refine Q1 k27 ?_;unfold Xq at h;rw [cX] at h;refine iL h fun h=>iL h fun h=>lpH (τ:=Int) (fun i17=>(.any :: .ptr 0 0 :: .any::iI i17::a16 (a8 ([])):List AV)) (fun n0 i17=>Y6 N f n0 i17) (0) h fun n0 i17 h=>?_
 first | rw [Y6] at h | simp only [Y6] at h
 rw [cX] at h;refine iR h fun h=>Q4.xR h fun y19 h=>cP h Q7k (.cons q4 .nil) fun v21 h=>iL h fun h=>?_;exact cg
def Jw (N:Nat) (e:Qg):Option Bool:=
 cond (Q0 .leq (e.Topic.length:Int) 2000)
 (cond (Q0 .leq (e.Payload.length:Int) 2000)
 ((Zr N e.Props).bind fun v3=>
 cond v3
 ((Jl N e.Packet).bind fun v6=>
 cond v6
 ((Ww N (⟨e.Hops,e.Msg⟩:Qb)).bind fun v9=>
 cond v9
 ((Xq N e.Frame).bind fun v12=>
 some v12)
 (some false))
 (some false))
 (some false))
 (some false))
 (some false)
def Q7f {N} {e} {r} (h:Jw N e=some r):pU 7 [.agg (Qg.cells e)] (.bool r):=by
 refine Q1 k7 ?_;unfold Jw at h;rw [cX] at h;refine iR h fun h=>iR h fun h=>cP h Wu p1 fun v3 h=>iR h fun h=>cP h Q74 zc fun v6 h=>iR h fun h=>cP h Q1l (.cons (Ar (f8_ za)) .nil) fun v9 h=>iR h fun h=>cP h Q7m (.cons q4 .nil) fun v12 h=>?_;exact am
def Q2n (_N:Nat) (s_0:List UInt8):Option Bool:=
 cond (Q0 .geq (s_0.length:Int) 3)
 (cond (Nat.ble 0 3&&Nat.ble 3 s_0.length) (some (Q10 .eql ((s_0.take 3).drop 0) [239,191,189])) none)
 (some false)
def Qdr {N} {s_0} {r} (h:Q2n N s_0=some r):pU 271 [.str s_0] (.bool r):=by
 refine Q1 Zph ?_;unfold Q2n at h;rw [cX,cY] at h;refine iR h fun h=>kU h fun h=>?_;exact am
def Ux (N:Nat) (s_0:List UInt8):Nat->Nat->Option Int
 | 0,_=>none
 | n+1,pos16=>
  cond (Nat.blt pos16 s_0.length)
  (cond (Q0 .eql (((Qfz s_0 pos16).1:Nat):Int) 0)
  (some ((pos16:Nat):Int))
  (cond (Q0 .eql (((Qfz s_0 pos16).1:Nat):Int) 65533)
  (cond (Nat.ble pos16 s_0.length&&Nat.ble s_0.length s_0.length) ((Q2n N ((s_0.take s_0.length).drop pos16)).bind fun v21=>
  cond (!v21)
  (some ((pos16:Nat):Int))
  (Ux N s_0 n (pos16+(Qfz s_0 pos16).2))) none)
  (Ux N s_0 n (pos16+(Qfz s_0 pos16).2))))
  (some (-1))
def Q6z (N:Nat) (s_0:List UInt8):Option Int:=
 Ux N s_0 N 0
def Qgc {N} {s_0} {r} (h:Q6z N s_0=some r):pU 210 [.str s_0] (.int .i64 r):=by
 refine Q1 Zi7 ?_;unfold Q6z at h;refine lpA (τ:=Nat) (fun _=>(iS s_0::a4 (.any :: .ptr 0 0::a16 (a2 ([]))):List AV)) (fun pos16=>(.strIter s_0 pos16 :: []:List AObj)) (fun n0 pos16=>Ux N s_0 n0 pos16) (0) h fun n0 pos16 h=>?_
 first | rw [Ux] at h | simp only [Ux] at h
 rw [cX] at h;refine iR h fun h=>iL h fun h=>?_;apply iU h<;>intro h
 ·refine kU h fun h=>cP h Qdr p1 fun v21 h=>iL h fun h=>?_;exact fY
 exact fY
def Wy (N:Nat) (s_0:List UInt8):Option Bool:=
 cond (Q0 .leq (s_0.length:Int) 65535)
 ((Q6z N s_0).bind fun v2=>
 some (Q0 .eql v2 (-1)))
 (some false)
def Ub {N} {s_0} {r} (h:Wy N s_0=some r):pU 159 [.str s_0] (.bool r):=by
 refine Q1 Zlf ?_;unfold Wy at h;rw [cX] at h;refine iR h fun h=>cP h Qgc p1 fun v2 h=>?_;exact am
def Q69 (N:Nat) (s_0:List UInt8):Option Bool:=
 cond (Q10 .neq s_0 [])
 ((Wy N s_0).bind fun v2=>
 some v2)
 (some false)
def Qb4 {N} {s_0} {r} (h:Q69 N s_0=some r):pU 97 [.str s_0] (.bool r):=by
 refine Q1 k97 ?_;unfold Q69 at h;rw [cY] at h;refine iR h fun h=>cP h Ub p1 fun v2 h=>?_;exact am
def Yo (_N:Nat) (s_0:List UInt8) (c:Int):Option Int:=
 some (Qk4 s_0 (UInt8.ofNat (Int.toNat c)) 0:Int)
def Q00 {N} {s_0} {c} {r} (h:Yo N s_0 c=some r):pU 342 [.str s_0,.int .u8 c] (.int .i64 r):=by
 refine Q1 Zkm ?_;unfold Yo at h;exact am
def Q1r (N:Nat) (s_0:List UInt8) (c:Int):Option Int:=
 (Yo N s_0 c).bind fun v1=>
 some v1
def Q5g {N} {s_0} {c} {r} (h:Q1r N s_0 c=some r):pU 272 [.str s_0,.int .u8 c] (.int .i64 r):=by
 refine Q1 Zpj ?_;unfold Q1r at h;refine cP h Q00 p2 fun v1 h=>?_;exact am
def Vv (_N:Nat) (r_0:Int):Option Bool:=
 cond (Q0 .leq 0 r_0)
 (cond (Q0 .lss r_0 55296)
 (some true)
 (cond (Q0 .lss 57343 r_0)
 (cond (Q0 .leq r_0 1114111)
 (some true)
 (some false))
 (some false)))
 (cond (Q0 .lss 57343 r_0)
 (cond (Q0 .leq r_0 1114111)
 (some true)
 (some false))
 (some false))
def Q7p {N} {r_0} {r} (h:Vv N r_0=some r):pU 273 [.int .i32 r_0] (.bool r):=by
 refine Q1 Zlr ?_;unfold Vv at h;rw [cX] at h;apply iU h<;>intro h
 ·exact iL h fun h=>iR h fun h=>iB h
 exact ij
def J4 (N:Nat) (s_0:List UInt8):Nat->Nat->Option Int
 | 0,_=>none
 | n+1,pos13=>
  cond (Nat.blt pos13 s_0.length)
  (cond (Q0 .eql (((Qfz s_0 pos13).1:Nat):Int) 65533)
  (some ((pos13:Nat):Int))
  (J4 N s_0 n (pos13+(Qfz s_0 pos13).2)))
  (some (-1))
def J9 (N:Nat) (s_0:List UInt8) (r_1:Int) (v82:Int):Nat->Int->Option Int
 | 0,_=>none
 | n+1,j98=>
  cond (Q0 .lss j98 (((Utf8.encode r_1).data.toList).length:Int))
  ((idx s_0 (wrap .i64 ((wrap .i64 ((wrap .i64 ((((Utf8.encode r_1).data.toList).length:Int) - 1))+(wrap .i64 (v82+1)))) - j98))).bind fun b100=>
  (idx ((Utf8.encode r_1).data.toList) (wrap .i64 ((wrap .i64 ((((Utf8.encode r_1).data.toList).length:Int) - 1)) - j98))).bind fun b102=>
  cond (Q0 .neq (b100.toNat:Int) (b102.toNat:Int))
  (none)
  (J9 N s_0 r_1 v82 n (wrap .i64 (j98+1))))
  (some (wrap .i64 ((wrap .i64 ((wrap .i64 ((((Utf8.encode r_1).data.toList).length:Int) - 1))+(wrap .i64 (v82+1)))) - (wrap .i64 ((((Utf8.encode r_1).data.toList).length:Int) - 1)))))
def J6 (N:Nat) (s_0:List UInt8) (r_1:Int):Nat->Int->Option Int
 | 0,_=>none
 | n+1,j118=>
  cond (Q0 .lss j118 (((Utf8.encode r_1).data.toList).length:Int))
  ((idx s_0 (wrap .i64 ((wrap .i64 ((((Utf8.encode r_1).data.toList).length:Int) - 1)) - j118))).bind fun b120=>
  (idx ((Utf8.encode r_1).data.toList) (wrap .i64 ((wrap .i64 ((((Utf8.encode r_1).data.toList).length:Int) - 1)) - j118))).bind fun b122=>
  cond (Q0 .neq (b120.toNat:Int) (b122.toNat:Int))
  (none)
  (J6 N s_0 r_1 n (wrap .i64 (j118+1))))
  (some (wrap .i64 ((wrap .i64 ((((Utf8.encode r_1).data.toList).length:Int) - 1)) - (wrap .i64 ((((Utf8.encode r_1).data.toList).length:Int) - 1)))))
def Vh (N:Nat) (s_0:List UInt8) (r_1:Int):Nat->Option Int
 | 0=>none
 | n+1=>
  cond (Q0 .lss (wrap .i64 ((((Utf8.encode r_1).data.toList).length:Int) - 1)) (s_0.length:Int))
  ((idx s_0 (wrap .i64 ((((Utf8.encode r_1).data.toList).length:Int) - 1))).bind fun b73=>
  (idx ((Utf8.encode r_1).data.toList) (wrap .i64 ((((Utf8.encode r_1).data.toList).length:Int) - 1))).bind fun b75=>
  cond (Q0 .neq (b73.toNat:Int) (b75.toNat:Int))
  (cond (decide (0≤(wrap .i64 ((wrap .i64 ((((Utf8.encode r_1).data.toList).length:Int) - 1))+1)))) (cond (Nat.ble (wrap .i64 ((wrap .i64 ((((Utf8.encode r_1).data.toList).length:Int) - 1))+1)).toNat s_0.length&&Nat.ble s_0.length s_0.length) ((idx ((Utf8.encode r_1).data.toList) (wrap .i64 ((((Utf8.encode r_1).data.toList).length:Int) - 1))).bind fun b80=>
  (Q1r N ((s_0.take s_0.length).drop ((wrap .i64 ((wrap .i64 ((((Utf8.encode r_1).data.toList).length:Int) - 1))+1)).toNat)) (b80.toNat:Int)).bind fun v82=>
  cond (Q0 .lss v82 0)
  (some (-1))
  (J9 N s_0 r_1 v82 N 1)) none) none)
  (J6 N s_0 r_1 N 1))
  (some (-1))
def J0 (N:Nat) (s_0:List UInt8) (r_1:Int) (s2:Bool):Option Int:=
 cond s2
 ((Q1r N s_0 (wrap .u8 r_1)).bind fun v5=>
 some v5)
 (cond (Q0 .eql r_1 65533)
 (J4 N s_0 N 0)
 ((Vv N r_1).bind fun v16=>
 cond (!v16)
 (some (-1))
 (Vh N s_0 r_1 N)))
def Q22 (N:Nat) (s_0:List UInt8) (r_1:Int):Option Int:=
 cond (Q0 .leq 0 r_1)
 (J0 N s_0 r_1 (Q0 .lss r_1 128))
 (J0 N s_0 r_1 false)
def Qak {N} {s_0} {r_1} {r} (h:Q22 N s_0 r_1=some r):pU 211 [.str s_0,.int .i32 r_1] (.int .i64 r):=by
 refine Q1 Zer ?_;unfold Q22 at h;rw [cX] at h;refine jrH (r:=r) (σ:=Bool) (fun s2=>(iS s_0 :: .p (.int .i32 r_1)::a16 (a16 (a16 (a16 (a16 (a16 (a16 (a16 (a16 (a8 (a4 (a2 (.p (.bool s2)::a16 (a8 (a2 ([]))))))))))))))):List AV)) (fun s2=>J0 N s_0 r_1 s2) ?_ ?_
 ·apply iU h<;>intro h
  ·show Exists _;exact ⟨((Ql6 .lss r_1 128)),h,(fun i=>i),Z6⟩
  exact aA
 rintro s2 h
 unfold J0 at h;rw [cX] at h;apply iU h<;>intro h
 ·refine cP h Q5g p2 fun v5 h=>?_;exact am
 apply iU h<;>intro h
 ·refine lpA (τ:=Nat) (fun _=>(a16 (a16 (a16 (a16 (a16 (a16 (a16 (a16 (a16 (a16 (a8 (a4 (a2 (.any :: .ptr 0 0::a8 (a2 (.any :: []))))))))))))))):List AV)) (fun pos13=>(.strIter s_0 pos13 :: []:List AObj)) (fun n1 pos13=>J4 N s_0 n1 pos13) (0) h fun n1 pos13 h=>?_
  first | rw [J4] at h | simp only [J4] at h
  rw [cX] at h;refine iR h fun h=>iL h fun h=>?_;show Exists _;exact ⟨(n1,(pos13+(Qfz s_0 pos13).2)),h,Lc _,(fun i=>i),Z6⟩
 refine cP h Q7p p1 fun v16 h=>iL h fun h=>lpH (τ:=Unit) (fun _=>(iS s_0::a4 (a2 (iS ((Utf8.encode r_1).data.toList) :: .p (.int .i64 (wrap .i64 ((((Utf8.encode r_1).data.toList).length:Int) - 1))) :: .p (.int .i64 (wrap .i64 ((((Utf8.encode r_1).data.toList).length:Int) - 1)))::a16 (a16 (a16 (a16 (a16 (a16 (a16 (a16 (a16 (a16 (a16 (.any :: []))))))))))))):List AV)) (fun n2 ⟨⟩=>Vh N s_0 r_1 n2) () h fun n2 ⟨⟩ h=>?_
 first | rw [Vh] at h | simp only [Vh] at h
 rw [cX] at h;refine iR h fun h=>Qd (xB h fun b73 h=>?_);refine xB h fun b75 h=>?_;apply iU h<;>intro h
 ·refine Qd (kU h fun h=>?_);refine kU h fun h=>xB h fun b80 h=>cD h Q5g p2 fun v82 h=>iL h fun h=>lpH (τ:=Int) (fun j98=>(iS s_0::a4 (a2 (iS ((Utf8.encode r_1).data.toList) :: .p (.int .i64 (wrap .i64 ((((Utf8.encode r_1).data.toList).length:Int) - 1))) :: .p (.int .i64 (wrap .i64 ((wrap .i64 ((((Utf8.encode r_1).data.toList).length:Int) - 1))+(wrap .i64 (v82+1))))) :: .any :: .any::iI j98::a16 (a16 (a16 (a16 (a16 (a16 (a16 (a16 (a16 (a16 (a8 (a4 (a2 ([]))))))))))))))):List AV)) (fun n3 j98=>J9 N s_0 r_1 v82 n3 j98) (1) h fun n3 j98 h=>?_
  first | rw [J9] at h | simp only [J9] at h
  rw [cX] at h;refine iR h fun h=>Qd (xB h fun b100 h=>?_);refine xB h fun b102 h=>?_;apply iU h<;>intro h
  ·exact bF
  show Exists _;exact ⟨(n3,(wrap .i64 (j98+1))),h,Lc _,(fun i=>i),Z6⟩
 refine lpH (τ:=Int) (fun j118=>(iS s_0::a4 (a2 (iS ((Utf8.encode r_1).data.toList) :: .p (.int .i64 (wrap .i64 ((((Utf8.encode r_1).data.toList).length:Int) - 1))) :: .p (.int .i64 (wrap .i64 ((((Utf8.encode r_1).data.toList).length:Int) - 1))) :: .any :: .any::iI j118::a16 (a16 (a16 (a16 (a16 (a16 (a16 (a16 (a16 (a16 (a8 (a4 (a2 ([]))))))))))))))):List AV)) (fun n4 j118=>J6 N s_0 r_1 n4 j118) (1) h fun n4 j118 h=>?_
 first | rw [J6] at h | simp only [J6] at h
 rw [cX] at h;refine iR h fun h=>Qd (xB h fun b120 h=>?_);refine xB h fun b122 h=>?_;apply iU h<;>intro h
 ·exact bF
 show Exists _;exact ⟨(n4,(wrap .i64 (j118+1))),h,Lc _,(fun i=>i),Z6⟩
def Q05 (_N:Nat) (bufLen:Int):Option Bool:=
 some (Q0 .gtr bufLen 8)
def Q66 {N} {bufLen} {r} (h:Q05 N bufLen=some r):pU 212 [.int .i64 bufLen] (.bool r):=by
 refine Q1 Zl9 ?_;unfold Q05 at h;rw [cX] at h;exact am
def Wt (N:Nat) (s_0:List UInt8):Nat->Int->Option Int
 | 0,_=>none
 | n+1,i20=>
  cond (Q0 .lss i20 (s_0.length:Int))
  ((idx s_0 i20).bind fun b22=>
  cond (decide (0≤(b22.toNat:Int))&&decide ((b22.toNat:Int)<((256:Nat):Int))) ((idx ([false,false,false,false,false,false,false,false,false,false,false,false,false,false,false,false,false,false,false,false,false,false,false,false,false,false,false,false,false,false,false,false,false,false,false,true,false,false,false,false,false,false,false,true,false,false,false,false,false,false,false,false,false,false,false,false,false,false,false,false,false,false,false,false,false,false,false,false,false,false,false,false,false,false,false,false,false,false,false,false,false,false,false,false,false,false,false,false,false,false,false,false,false,false,false,false,false,false,false,false,false,false,false,false,false,false,false,false,false,false,false,false,false,false,false,false,false,false,false,false,false,false,false,false,false,false,false,false,false,false,false,false,false,false,false,false,false,false,false,false,false,false,false,false,false,false,false,false,false,false,false,false,false,false,false,false,false,false,false,false,false,false,false,false,false,false,false,false,false,false,false,false,false,false,false,false,false,false,false,false,false,false,false,false,false,false,false,false,false,false,false,false,false,false,false,false,false,false,false,false,false,false,false,false,false,false,false,false,false,false,false,false,false,false,false,false,false,false,false,false,false,false,false,false,false,false,false,false,false,false,false,false,false,false,false,false,false,false,false,false,false,false,false,false,false,false,false,false,false,false,false,false,false,false,false,false]:List Bool) (b22.toNat:Int)).bind fun y24=>
  cond y24
  (some i20)
  (Wt N s_0 n (wrap .i64 (i20+1)))) none)
  (some (-1))
def Ws (N:Nat) (s_0:List UInt8):Nat->Nat->Option Int
 | 0,_=>none
 | n+1,pos37=>
  cond (Nat.blt pos37 s_0.length)
  ((Q22 N [43,35] (((Qfz s_0 pos37).1:Nat):Int)).bind fun v39=>
  cond (Q0 .geq v39 0)
  (some ((pos37:Nat):Int))
  (Ws N s_0 n (pos37+(Qfz s_0 pos37).2)))
  (some (-1))
def Q0m (N:Nat) (s_0:List UInt8):Option Int:=
 cond (Q10 .eql [43,35] [])
 (some (-1))
 ((Q05 N (s_0.length:Int)).bind fun v2=>
 cond v2
 (Wt N s_0 N 0)
 (Ws N s_0 N 0))
def Q96 {N} {s_0} {r} (h:Q0m N s_0=some r):pU 160 [.str s_0,.str [43,35]] (.int .i64 r):=by
 refine Q1 Zmg ?_;unfold Q0m at h;rw [cY] at h;refine iL h fun h=>dF (cP h Q66 p1 fun v2 h=>?_);apply iU h<;>intro h
 ·refine Q8 Zft (Zf 4 ?_);refine dT (dF ?_);refine dT (dF ?_);refine dF (lpH (τ:=Int) (fun i20=>(iS s_0::a4 (.any :: .ptr 1 0 :: .any::iI i20::a16 (a16 (a8 (a4 (a2 ([])))))):List AV)) (fun n0 i20=>Wt N s_0 n0 i20) (0) h fun n0 i20 h=>?_)
  first | rw [Wt] at h | simp only [Wt] at h
  rw [cX] at h;refine iR h fun h=>xB h fun b22 h=>Q8 Zs0 (kU h fun h=>?_);obtain ⟨y24,hy25,h⟩:=Q2h h
  refine Qap (c:=cB) (e:=1) (fun _=>rfl) hy25 (off:=0) (by decide) aq ?_
  refine iL h fun h=>?_;show Exists _;exact ⟨(n0,(wrap .i64 (i20+1))),h,Lc _,(fun i=>i),Z6⟩
 refine lpA (τ:=Nat) (fun _=>(.any :: .p (.str [43,35])::a16 (a16 (a8 (a2 (.any :: .ptr 0 0::a8 (.any :: []))))):List AV)) (fun pos37=>(.strIter s_0 pos37 :: []:List AObj)) (fun n1 pos37=>Ws N s_0 n1 pos37) (0) h fun n1 pos37 h=>?_
 first | rw [Ws] at h | simp only [Ws] at h
 rw [cX] at h;refine iR h fun h=>cP h Qak p2 fun v39 h=>iL h fun h=>?_;show Exists _;exact ⟨(n1,(pos37+(Qfz s_0 pos37).2)),h,Lc _,(fun i=>i),Z6⟩
def Xr (N:Nat) (s_0:List UInt8):Option Bool:=
 (Q0m N s_0).bind fun v1=>
 some (Q0 .geq v1 0)
def Gy {N} {s_0} {r} (h:Xr N s_0=some r):pU 98 [.str s_0,.str [43,35]] (.bool r):=by
 refine Q1 k98 ?_;unfold Xr at h;rw [cX] at h;refine cP h Q96 p2 fun v1 h=>?_;exact am
def Wg (N:Nat) (s_0:List UInt8):Option Bool:=
 (Q69 N s_0).bind fun v1=>
 cond v1
 ((Xr N s_0).bind fun v4=>
 some (!v4))
 (some false)
def Vj {N} {s_0} {r} (h:Wg N s_0=some r):pU 58 [.str s_0] (.bool r):=by
 refine Q1 k58 ?_;unfold Wg at h;refine cP h Qb4 p1 fun v1 h=>iR h fun h=>cP h Gy p2 fun v4 h=>?_;exact am
def Q2u (N:Nat) (R:Reg) (c n:List UInt8) (id:Int):Option (Int×Reg):=(Wg N n).bind fun b=>some (Qjm b R c n id)
def Qds {N R c n id r} (h:Q2u N R c n id=some r):Q6f Tryz.prog G1 32 R [.str c,.str n,.int .i64 id] (.int .i64 r.1) r.2:=by
 obtain ⟨b,hb,h⟩:=Q2h h;cases h;exact Z7c (Vj hb)
def Zy (N:Nat) (l:List Qs) (t:Qs):Nat->Bool->Int->(List Qs)->Option (List Qs)
 | 0,_,_,_=>none
 | n+1,in27,i28,l29=>
  cond (Q0 .lss i28 ((Q7 Qs.cells l).length:Int))
  (cond (!in27)
  ((idx l i28).bind fun y32=>
  cond (Q0 .lss t.ID y32.ID)
  (cond (Nat.ble ((l29.length+1+4096) * 32) 17592186044416) ((idx l i28).bind fun y36=>
  cond (Nat.ble (((l29.length+1)+1+4096) * 32) 17592186044416) (Zy N l t n true (wrap .i64 (i28+1)) ((l29 ++ [t]) ++ [y36])) none) none)
  ((idx l i28).bind fun y39=>
  cond (Nat.ble ((l29.length+1+4096) * 32) 17592186044416) (Zy N l t n in27 (wrap .i64 (i28+1)) (l29 ++ [y39])) none))
  ((idx l i28).bind fun y42=>
  cond (Nat.ble ((l29.length+1+4096) * 32) 17592186044416) (Zy N l t n in27 (wrap .i64 (i28+1)) (l29 ++ [y42])) none))
  (cond (!in27)
  (cond (Nat.ble ((l29.length+1+4096) * 32) 17592186044416) (some (l29 ++ [t])) none)
  (some l29))
def Jh (N:Nat) (l:List Qs) (t:Qs):Option (List Qs):=
 Zy N l t N false 0 []
def Q5f {N} {l} {t} {r} (h:Jh N l t=some r):pU 64 [.slice 3 (Q7 Qs.cells l),.agg (Qs.cells t)] (.slice 3 (Q7 Qs.cells r)):=by
 refine Q1 k64 ?_;unfold Jh at h;refine lpA (τ:=Bool×Int×(List Qs)) (fun ⟨in27,i28,l29⟩=>(.p (.slice 3 (Q7 Qs.cells l)) :: .any :: .any :: .ptr 0 0 :: .any :: .slice 3 1 0 l29.length :: .p (.bool in27)::iI i28::a16 (a16 (a4 ([]))):List AV)) (fun ⟨_,_,l29⟩=>(.cells (iI t.ID::iS t.Name :: .p (.bool t.Fixed) :: []) :: .cells (Xh Qs.cells l29) :: []:List AObj)) (fun n0 ⟨in27,i28,l29⟩=>Zy N l t n0 in27 i28 l29) (false,0,[]) h fun n0 ⟨in27,i28,l29⟩ h=>?_
 first | rw [Zy] at h | simp only [Zy] at h
 rw [cX] at h;apply iU h<;>intro h
 ·refine Qd ?_;apply iU h<;>intro h
  ·refine xR h fun y32 h=>?_;apply iU h<;>intro h
   ·obtain ⟨hk35,h⟩:=Q6a h;refine Q3a (W8 (c:=Qs.cells) (e:=3) (fun _=>rfl) sd hk35) (Ja (c:=Qs.cells) [t] rfl ?_);refine xR h fun y36 h=>?_;obtain ⟨hk38,h⟩:=Q6a h;refine Q3a (W8 (c:=Qs.cells) (e:=3) (fun _=>rfl) sd hk38) (Ja (c:=Qs.cells) [y36] rfl ?_);show Exists _;exact ⟨(n0,true,(wrap .i64 (i28+1)),((l29 ++ [t]) ++ [y36])),h,Lc _,(rho [0,5]),Z6⟩
   refine xR h fun y39 h=>?_;obtain ⟨hk41,h⟩:=Q6a h;refine Q3a (W8 (c:=Qs.cells) (e:=3) (fun _=>rfl) sd hk41) (Ja (c:=Qs.cells) [y39] rfl ?_);show Exists _;exact ⟨(n0,in27,(wrap .i64 (i28+1)),(l29 ++ [y39])),h,Lc _,(rho [0,3]),Z6⟩
  refine xR h fun y42 h=>?_;obtain ⟨hk44,h⟩:=Q6a h;refine Q3a (W8 (c:=Qs.cells) (e:=3) (fun _=>rfl) sd hk44) (Ja (c:=Qs.cells) [y42] rfl ?_);show Exists _;exact ⟨(n0,in27,(wrap .i64 (i28+1)),(l29 ++ [y42])),h,Lc _,(rho [0,3]),Z6⟩
 apply iU h<;>intro h
 ·obtain ⟨hk46,h⟩:=Q6a h;refine Q3a (W8 (c:=Qs.cells) (e:=3) (fun _=>rfl) sd hk46) (Ja (c:=Qs.cells) [t] rfl ?_);obtain rfl:=Qe h;exact (frz_own (c:=Qs.cells) (l:=((l29 ++ [t]):List Qs)) (fun _=>rfl) rfl trivial sd)
 obtain rfl:=Qe h;exact (frz_own (c:=Qs.cells) (l:=(l29:List Qs)) (fun _=>rfl) rfl trivial sd)
def Y5 (N:Nat) (r_0:Q2) (client:List UInt8):Nat->Int->Option ((List Qs)×Q2)
 | 0,_=>none
 | n+1,i18=>
  cond (Q0 .lss i18 ((Q7 Q5.cells r_0.L).length:Int))
  ((idx r_0.L i18).bind fun y20=>
  cond (Q10 .eql y20.client client)
  ((idx r_0.L i18).bind fun y23=>
  cond (Nat.beq (Q7 Qs.cells y23.l).length 0)
  (some ([],r_0))
  (cond (Nat.ble ((0+(Q7 Qs.cells y23.l).length+4096) * 32) 17592186044416) (some ((([]:List Qs)++y23.l),r_0)) none))
  (Y5 N r_0 client n (wrap .i64 (i18+1))))
  (some ([],r_0))
def Qf (N:Nat) (r_0:Q2) (client:List UInt8):Option ((List Qs)×Q2):=
 Y5 N r_0 client N 0
def Z8 {N} {r_0} {client} {r} (h:Qf N r_0 client=some r):Qtu Tryz.prog G1 18 (Q2.cells r_0) [.str client] (.slice 3 (Q7 Qs.cells r.1)) (Q2.cells r.2):=by
 refine Q78 k18 ?_;unfold Qf at h;refine lpH (τ:=Int) (fun i18=>(.ptr 0 0::iS client::a2 (.any::iI i18::a16 (a8 (a4 (.any :: [])))):List AV)) (fun n0 i18=>Y5 N r_0 client n0 i18) (0) h fun n0 i18 h=>?_
 first | rw [Y5] at h | simp only [Y5] at h
 rw [cX,cY] at h;apply iU h<;>intro h
 ·refine xR h fun y20 h=>?_;apply iU h<;>intro h
  ·refine xR h fun y23 h=>Qwj (c:=Qs.cells) (vs:=y23.l) rfl ?_;apply iU h<;>intro h
   ·obtain rfl:=Qe h;exact ⟨_,_,rfl,p1,(frz_own (c:=Qs.cells) (l:=([]:List Qs)) (fun _=>rfl) rfl (by decide) sd)⟩
   obtain ⟨hk25,h⟩:=Q6a h;refine Q3a (W8 (c:=Qs.cells) (e:=3) (l:=([]:List Qs)) (fun _=>rfl) sd hk25) ?_;obtain rfl:=Qe h;exact ⟨_,_,rfl,p1,(frz_own (c:=Qs.cells) (l:=((([]:List Qs)++y23.l):List Qs)) (fun _=>rfl) rfl (by decide) sd)⟩
  exact gF
 obtain rfl:=Qe h;exact ⟨_,_,rfl,p1,(.nil _)⟩
def Yk (_N:Nat) (s_0:List UInt8) (at_1:Int):Option (Int×Bool):=
 cond (Q0 .geq at_1 (s_0.length:Int))
 (some (0,false))
 ((idx s_0 at_1).bind fun b2=>
 cond (Q0 .lss (b2.toNat:Int) 128)
 (some (0,false))
 ((idx s_0 at_1).bind fun b5=>
 cond (Q0 .gtr (b5.toNat:Int) 191)
 (some (0,false))
 ((idx s_0 at_1).bind fun b8=>
 some ((wrap .i64 ((wrap .i64 (b8.toNat:Int)) - 128)),true))))
def W5 {N} {s_0} {at_1} {r} (h:Yk N s_0 at_1=some r):pU 276 [.str s_0,.int .i64 at_1] (.tuple [.int .i64 r.1,.bool r.2]):=by
 refine Q1 Zsq ?_;unfold Yk at h;rw [cX] at h;refine iL2 h fun h=>xB h fun b2 h=>iL2 h fun h=>xB h fun b5 h=>iL2 h fun h=>xB h fun b8 h=>?_;exact aU
def Zs (N:Nat) (s_0:List UInt8) (at_1:Int):Nat->Int->Int->Option (Int×Int)
 | 0,_,_=>none
 | n+1,n15,i17=>
  cond (Q0 .lss i17 2)
  ((Yk N s_0 (wrap .i64 (at_1+i17))).bind fun v19=>
  cond (!v19.2)
  (some (0,0))
  (Zs N s_0 at_1 n (wrap .i64 ((wrap .i64 (64 * n15))+v19.1)) (wrap .i64 (i17+1))))
  (cond (Q0 .lss n15 128)
  (some (0,0))
  (cond (Q0 .gtr n15 1114111)
  (some (0,0))
  (cond (Q0 .geq n15 55296)
  (cond (Q0 .leq n15 57343)
  (some (0,0))
  (some (n15,2)))
  (some (n15,2)))))
def Zt (N:Nat) (s_0:List UInt8) (at_1:Int):Nat->Int->Int->Option (Int×Int)
 | 0,_,_=>none
 | n+1,n38,i39=>
  cond (Q0 .lss i39 3)
  ((Yk N s_0 (wrap .i64 (at_1+i39))).bind fun v41=>
  cond (!v41.2)
  (some (0,0))
  (Zt N s_0 at_1 n (wrap .i64 ((wrap .i64 (64 * n38))+v41.1)) (wrap .i64 (i39+1))))
  (cond (Q0 .lss n38 2048)
  (some (0,0))
  (cond (Q0 .gtr n38 1114111)
  (some (0,0))
  (cond (Q0 .geq n38 55296)
  (cond (Q0 .leq n38 57343)
  (some (0,0))
  (some (n38,3)))
  (some (n38,3)))))
def Zu (N:Nat) (s_0:List UInt8) (at_1:Int):Nat->Int->Int->Option (Int×Int)
 | 0,_,_=>none
 | n+1,n59,i60=>
  cond (Q0 .lss i60 4)
  ((Yk N s_0 (wrap .i64 (at_1+i60))).bind fun v62=>
  cond (!v62.2)
  (some (0,0))
  (Zu N s_0 at_1 n (wrap .i64 ((wrap .i64 (64 * n59))+v62.1)) (wrap .i64 (i60+1))))
  (cond (Q0 .lss n59 65536)
  (some (0,0))
  (cond (Q0 .gtr n59 1114111)
  (some (0,0))
  (cond (Q0 .geq n59 55296)
  (cond (Q0 .leq n59 57343)
  (some (0,0))
  (some (n59,4)))
  (some (n59,4)))))
def U2 (N:Nat) (s_0:List UInt8) (at_1:Int):Nat->Int->Int->Option (Int×Int)
 | 0,_,_=>none
 | n+1,n80,i81=>
  cond (Q0 .lss i81 4)
  ((Yk N s_0 (wrap .i64 (at_1+i81))).bind fun v83=>
  cond (!v83.2)
  (some (0,0))
  (U2 N s_0 at_1 n (wrap .i64 ((wrap .i64 (64 * n80))+v83.1)) (wrap .i64 (i81+1))))
  (cond (Q0 .lss n80 65536)
  (some (0,0))
  (cond (Q0 .gtr n80 1114111)
  (some (0,0))
  (cond (Q0 .geq n80 55296)
  (cond (Q0 .leq n80 57343)
  (some (0,0))
  (some (n80,4)))
  (some (n80,4)))))
def Vp (N:Nat) (s_0:List UInt8) (at_1:Int):Nat->Int->Int->Option (Int×Int)
 | 0,_,_=>none
 | n+1,n101,i102=>
  cond (Q0 .lss i102 3)
  ((Yk N s_0 (wrap .i64 (at_1+i102))).bind fun v104=>
  cond (!v104.2)
  (some (0,0))
  (Vp N s_0 at_1 n (wrap .i64 ((wrap .i64 (64 * n101))+v104.1)) (wrap .i64 (i102+1))))
  (cond (Q0 .lss n101 2048)
  (some (0,0))
  (cond (Q0 .gtr n101 1114111)
  (some (0,0))
  (cond (Q0 .geq n101 55296)
  (cond (Q0 .leq n101 57343)
  (some (0,0))
  (some (n101,3)))
  (some (n101,3)))))
def U3 (N:Nat) (s_0:List UInt8) (at_1:Int):Nat->Int->Int->Option (Int×Int)
 | 0,_,_=>none
 | n+1,n122,i123=>
  cond (Q0 .lss i123 4)
  ((Yk N s_0 (wrap .i64 (at_1+i123))).bind fun v125=>
  cond (!v125.2)
  (some (0,0))
  (U3 N s_0 at_1 n (wrap .i64 ((wrap .i64 (64 * n122))+v125.1)) (wrap .i64 (i123+1))))
  (cond (Q0 .lss n122 65536)
  (some (0,0))
  (cond (Q0 .gtr n122 1114111)
  (some (0,0))
  (cond (Q0 .geq n122 55296)
  (cond (Q0 .leq n122 57343)
  (some (0,0))
  (some (n122,4)))
  (some (n122,4)))))
def Vt (N:Nat) (s_0:List UInt8) (at_1:Int):Nat->Int->Int->Option (Int×Int)
 | 0,_,_=>none
 | n+1,n143,i144=>
  cond (Q0 .lss i144 4)
  ((Yk N s_0 (wrap .i64 (at_1+i144))).bind fun v146=>
  cond (!v146.2)
  (some (0,0))
  (Vt N s_0 at_1 n (wrap .i64 ((wrap .i64 (64 * n143))+v146.1)) (wrap .i64 (i144+1))))
  (cond (Q0 .lss n143 65536)
  (some (0,0))
  (cond (Q0 .gtr n143 1114111)
  (some (0,0))
  (cond (Q0 .geq n143 55296)
  (cond (Q0 .leq n143 57343)
  (some (0,0))
  (some (n143,4)))
  (some (n143,4)))))
def Vx (N:Nat) (s_0:List UInt8) (at_1:Int):Option (Int×Int):=
 (idx s_0 at_1).bind fun b1=>
 cond (Q0 .lss (wrap .i64 (b1.toNat:Int)) 128)
 (some ((wrap .i64 (b1.toNat:Int)),1))
 (cond (Q0 .geq (wrap .i64 (b1.toNat:Int)) 192)
 (cond (Q0 .lss (wrap .i64 (b1.toNat:Int)) 224)
 (Zs N s_0 at_1 N (wrap .i64 ((wrap .i64 (b1.toNat:Int)) - 192)) 1)
 (cond (Q0 .geq (wrap .i64 (b1.toNat:Int)) 224)
 (cond (Q0 .lss (wrap .i64 (b1.toNat:Int)) 240)
 (Zt N s_0 at_1 N (wrap .i64 ((wrap .i64 (b1.toNat:Int)) - 224)) 1)
 (cond (Q0 .geq (wrap .i64 (b1.toNat:Int)) 240)
 (cond (Q0 .lss (wrap .i64 (b1.toNat:Int)) 248)
 (Zu N s_0 at_1 N (wrap .i64 ((wrap .i64 (b1.toNat:Int)) - 240)) 1)
 (some (0,0)))
 (some (0,0))))
 (cond (Q0 .geq (wrap .i64 (b1.toNat:Int)) 240)
 (cond (Q0 .lss (wrap .i64 (b1.toNat:Int)) 248)
 (U2 N s_0 at_1 N (wrap .i64 ((wrap .i64 (b1.toNat:Int)) - 240)) 1)
 (some (0,0)))
 (some (0,0)))))
 (cond (Q0 .geq (wrap .i64 (b1.toNat:Int)) 224)
 (cond (Q0 .lss (wrap .i64 (b1.toNat:Int)) 240)
 (Vp N s_0 at_1 N (wrap .i64 ((wrap .i64 (b1.toNat:Int)) - 224)) 1)
 (cond (Q0 .geq (wrap .i64 (b1.toNat:Int)) 240)
 (cond (Q0 .lss (wrap .i64 (b1.toNat:Int)) 248)
 (U3 N s_0 at_1 N (wrap .i64 ((wrap .i64 (b1.toNat:Int)) - 240)) 1)
 (some (0,0)))
 (some (0,0))))
 (cond (Q0 .geq (wrap .i64 (b1.toNat:Int)) 240)
 (cond (Q0 .lss (wrap .i64 (b1.toNat:Int)) 248)
 (Vt N s_0 at_1 N (wrap .i64 ((wrap .i64 (b1.toNat:Int)) - 240)) 1)
 (some (0,0)))
 (some (0,0)))))
def Q9c {N} {s_0} {at_1} {r} (h:Vx N s_0 at_1=some r):pU 215 [.str s_0,.int .i64 at_1] (.tuple [.int .i64 r.1,.int .i64 r.2]):=by
 refine Q1 Zq4 ?_;unfold Vx at h;rw [cX] at h;refine xB h fun b1 h=>iL2 h fun h=>?_;apply iU h<;>intro h
 ·apply iU h<;>intro h
  ·refine lpH (τ:=Int×Int) (fun ⟨n15,i17⟩=>(iS s_0::iI at_1::a4 (iI n15::iI 2::iI 128::iI i17::a16 (a16 (a16 (a16 (a8 (.any :: [])))))):List AV)) (fun n0 ⟨n15,i17⟩=>Zs N s_0 at_1 n0 n15 i17) ((wrap .i64 ((wrap .i64 (b1.toNat:Int)) - 192)),1) h fun n0 ⟨n15,i17⟩ h=>?_
   first | rw [Zs] at h | simp only [Zs] at h
   rw [cX] at h;apply iU h<;>intro h
   ·refine cP h W5 p2 fun v19 h=>iL2 h fun h=>?_;show Exists _;exact ⟨(n0,(wrap .i64 ((wrap .i64 (64 * n15))+v19.1)),(wrap .i64 (i17+1))),h,Lc _,(fun i=>i),Z6⟩
   exact bA
  apply iU h<;>intro h
  ·apply iU h<;>intro h
   ·refine lpH (τ:=Int×Int) (fun ⟨n38,i39⟩=>(iS s_0::iI at_1::a4 (iI n38::iI 3::iI 2048::iI i39::a16 (a16 (a16 (a16 (a8 (.any :: [])))))):List AV)) (fun n1 ⟨n38,i39⟩=>Zt N s_0 at_1 n1 n38 i39) ((wrap .i64 ((wrap .i64 (b1.toNat:Int)) - 224)),1) h fun n1 ⟨n38,i39⟩ h=>?_
    first | rw [Zt] at h | simp only [Zt] at h
    rw [cX] at h;apply iU h<;>intro h
    ·refine cP h W5 p2 fun v41 h=>iL2 h fun h=>?_;show Exists _;exact ⟨(n1,(wrap .i64 ((wrap .i64 (64 * n38))+v41.1)),(wrap .i64 (i39+1))),h,Lc _,(fun i=>i),Z6⟩
    exact bA
   refine iR2 h fun h=>iR2 h fun h=>lpH (τ:=Int×Int) (fun ⟨n59,i60⟩=>(iS s_0::iI at_1::a4 (iI n59::iI 4::iI 65536::iI i60::a16 (a16 (a16 (a16 (a8 (.any :: [])))))):List AV)) (fun n2 ⟨n59,i60⟩=>Zu N s_0 at_1 n2 n59 i60) ((wrap .i64 ((wrap .i64 (b1.toNat:Int)) - 240)),1) h fun n2 ⟨n59,i60⟩ h=>?_
   first | rw [Zu] at h | simp only [Zu] at h
   rw [cX] at h;apply iU h<;>intro h
   ·refine cP h W5 p2 fun v62 h=>iL2 h fun h=>?_;show Exists _;exact ⟨(n2,(wrap .i64 ((wrap .i64 (64 * n59))+v62.1)),(wrap .i64 (i60+1))),h,Lc _,(fun i=>i),Z6⟩
   exact bA
  refine iR2 h fun h=>iR2 h fun h=>lpH (τ:=Int×Int) (fun ⟨n80,i81⟩=>(iS s_0::iI at_1::a4 (iI n80::iI 4::iI 65536::iI i81::a16 (a16 (a16 (a16 (a8 (.any :: [])))))):List AV)) (fun n3 ⟨n80,i81⟩=>U2 N s_0 at_1 n3 n80 i81) ((wrap .i64 ((wrap .i64 (b1.toNat:Int)) - 240)),1) h fun n3 ⟨n80,i81⟩ h=>?_
  first | rw [U2] at h | simp only [U2] at h
  rw [cX] at h;apply iU h<;>intro h
  ·refine cP h W5 p2 fun v83 h=>iL2 h fun h=>?_;show Exists _;exact ⟨(n3,(wrap .i64 ((wrap .i64 (64 * n80))+v83.1)),(wrap .i64 (i81+1))),h,Lc _,(fun i=>i),Z6⟩
  exact bA
 apply iU h<;>intro h
 ·apply iU h<;>intro h
  ·refine lpH (τ:=Int×Int) (fun ⟨n101,i102⟩=>(iS s_0::iI at_1::a4 (iI n101::iI 3::iI 2048::iI i102::a16 (a16 (a16 (a16 (a8 (.any :: [])))))):List AV)) (fun n4 ⟨n101,i102⟩=>Vp N s_0 at_1 n4 n101 i102) ((wrap .i64 ((wrap .i64 (b1.toNat:Int)) - 224)),1) h fun n4 ⟨n101,i102⟩ h=>?_
   first | rw [Vp] at h | simp only [Vp] at h
   rw [cX] at h;apply iU h<;>intro h
   ·refine cP h W5 p2 fun v104 h=>iL2 h fun h=>?_;show Exists _;exact ⟨(n4,(wrap .i64 ((wrap .i64 (64 * n101))+v104.1)),(wrap .i64 (i102+1))),h,Lc _,(fun i=>i),Z6⟩
   exact bA
  refine iR2 h fun h=>iR2 h fun h=>lpH (τ:=Int×Int) (fun ⟨n122,i123⟩=>(iS s_0::iI at_1::a4 (iI n122::iI 4::iI 65536::iI i123::a16 (a16 (a16 (a16 (a8 (.any :: [])))))):List AV)) (fun n5 ⟨n122,i123⟩=>U3 N s_0 at_1 n5 n122 i123) ((wrap .i64 ((wrap .i64 (b1.toNat:Int)) - 240)),1) h fun n5 ⟨n122,i123⟩ h=>?_
  first | rw [U3] at h | simp only [U3] at h
  rw [cX] at h;apply iU h<;>intro h
  ·refine cP h W5 p2 fun v125 h=>iL2 h fun h=>?_;show Exists _;exact ⟨(n5,(wrap .i64 ((wrap .i64 (64 * n122))+v125.1)),(wrap .i64 (i123+1))),h,Lc _,(fun i=>i),Z6⟩
  exact bA
 refine iR2 h fun h=>iR2 h fun h=>lpH (τ:=Int×Int) (fun ⟨n143,i144⟩=>(iS s_0::iI at_1::a4 (iI n143::iI 4::iI 65536::iI i144::a16 (a16 (a16 (a16 (a8 (.any :: [])))))):List AV)) (fun n6 ⟨n143,i144⟩=>Vt N s_0 at_1 n6 n143 i144) ((wrap .i64 ((wrap .i64 (b1.toNat:Int)) - 240)),1) h fun n6 ⟨n143,i144⟩ h=>?_
 first | rw [Vt] at h | simp only [Vt] at h
 rw [cX] at h;apply iU h<;>intro h
 ·refine cP h W5 p2 fun v146 h=>iL2 h fun h=>?_;show Exists _;exact ⟨(n6,(wrap .i64 ((wrap .i64 (64 * n143))+v146.1)),(wrap .i64 (i144+1))),h,Lc _,(fun i=>i),Z6⟩
 exact bA
def Wk (N:Nat) (s_0:List UInt8):Nat->Int->Option Int
 | 0,_=>none
 | n+1,at12=>
  cond (Q0 .lss at12 (s_0.length:Int))
  ((Vx N s_0 at12).bind fun v14=>
  cond (Q0 .eql v14.2 0)
  (some at12)
  (cond (Q0 .eql v14.1 0)
  (some at12)
  (Wk N s_0 n (wrap .i64 (at12+v14.2)))))
  (some (-1))
def Q1t (N:Nat) (s_0:List UInt8):Option Int:=
 Wk N s_0 N 0
def Qaf {N} {s_0} {r} (h:Q1t N s_0=some r):pU 162 [.str s_0] (.int .i64 r):=by
 refine Q1 Zgf ?_;unfold Q1t at h;refine lpH (τ:=Int) (fun at12=>(iS s_0 :: .any :: .any::iI at12::a16 (a4 (a2 ([]))):List AV)) (fun n0 at12=>Wk N s_0 n0 at12) (0) h fun n0 at12 h=>?_
 first | rw [Wk] at h | simp only [Wk] at h
 rw [cX] at h;refine iR h fun h=>cP h Q9c p2 fun v14 h=>iL h fun h=>iL h fun h=>?_;show Exists _;exact ⟨(n0,(wrap .i64 (at12+v14.2))),h,Lc _,(fun i=>i),Z6⟩
def X4 (N:Nat) (s_0:List UInt8):Option Bool:=
 cond (Q0 .leq (s_0.length:Int) 65535)
 ((Q1t N s_0).bind fun v2=>
 some (Q0 .lss v2 0))
 (some false)
def Wo {N} {s_0} {r} (h:X4 N s_0=some r):pU 100 [.str s_0] (.bool r):=by
 refine Q1 Znr ?_;unfold X4 at h;rw [cX] at h;refine iR h fun h=>cP h Qaf p1 fun v2 h=>?_;exact am
def Vg (N:Nat) (s_0:List UInt8) (c:Int):Nat->Int->Option Bool
 | 0,_=>none
 | n+1,i10=>
  cond (Q0 .lss i10 (s_0.length:Int))
  ((idx s_0 i10).bind fun b12=>
  cond (Q0 .eql (b12.toNat:Int) c)
  (some true)
  (Vg N s_0 c n (wrap .i64 (i10+1))))
  (some false)
def Xd (N:Nat) (s_0:List UInt8) (c:Int):Option Bool:=
 Vg N s_0 c N 0
def J8 {N} {s_0} {c} {r} (h:Xd N s_0 c=some r):pU 101 [.str s_0,.int .u8 c] (.bool r):=by
 refine Q1 Zgh ?_;unfold Xd at h;refine lpH (τ:=Int) (fun i10=>(iS s_0 :: .p (.int .u8 c)::a2 (.any::iI i10::a8 (a2 (.any :: []))):List AV)) (fun n0 i10=>Vg N s_0 c n0 i10) (0) h fun n0 i10 h=>?_
 first | rw [Vg] at h | simp only [Vg] at h
 rw [cX] at h;refine iR h fun h=>xB h fun b12 h=>iL h fun h=>?_;exact gD
def Zn (N:Nat) (s_0:List UInt8):Option Bool:=
 cond (Q10 .neq s_0 [])
 ((X4 N s_0).bind fun v2=>
 cond v2
 ((Xd N s_0 43).bind fun v5=>
 cond (!v5)
 ((Xd N s_0 35).bind fun v8=>
 some (!v8))
 (some false))
 (some false))
 (some false)
def X3 {N} {s_0} {r} (h:Zn N s_0=some r):pU 62 [.str s_0] (.bool r):=by
 refine Q1 k62 ?_;unfold Zn at h;rw [cY] at h;refine iR h fun h=>cP h Wo p1 fun v2 h=>iR h fun h=>cP h J8 p2 fun v5 h=>iR h fun h=>cP h J8 p2 fun v8 h=>?_;exact am
def Qj (N:Nat) (r_0:Q2) (client:List UInt8) (l:List Qs):Nat->Bool->Int->(List Q5)->Option ((Unit)×Q2)
 | 0,_,_,_=>none
 | n+1,in24,i25,l26=>
  cond (Q0 .lss i25 ((Q7 Q5.cells r_0.L).length:Int))
  ((idx r_0.L i25).bind fun y28=>
  cond (!in24)
  (cond (Q10 .lss client y28.client)
  (cond (Nat.ble ((l26.length+1+4096) * 40) 17592186044416) (cond (Q10 .neq y28.client client)
  (cond (Nat.ble (((l26.length+1)+1+4096) * 40) 17592186044416) (Qj N r_0 client l n true (wrap .i64 (i25+1)) ((l26 ++ [(⟨client,l⟩:Q5)]) ++ [y28])) none)
  (Qj N r_0 client l n true (wrap .i64 (i25+1)) (l26 ++ [(⟨client,l⟩:Q5)]))) none)
  (cond (Q10 .neq y28.client client)
  (cond (Nat.ble ((l26.length+1+4096) * 40) 17592186044416) (Qj N r_0 client l n in24 (wrap .i64 (i25+1)) (l26 ++ [y28])) none)
  (Qj N r_0 client l n in24 (wrap .i64 (i25+1)) l26)))
  (cond (Q10 .neq y28.client client)
  (cond (Nat.ble ((l26.length+1+4096) * 40) 17592186044416) (Qj N r_0 client l n in24 (wrap .i64 (i25+1)) (l26 ++ [y28])) none)
  (Qj N r_0 client l n in24 (wrap .i64 (i25+1)) l26)))
  (cond (!in24)
  (cond (Nat.ble ((l26.length+1+4096) * 40) 17592186044416) (some ((),(⟨(l26 ++ [(⟨client,l⟩:Q5)])⟩:Q2))) none)
  (some ((),(⟨l26⟩:Q2))))
def Xe (N:Nat) (r_0:Q2) (client:List UInt8) (l:List Qs):Option ((Unit)×Q2):=
 Qj N r_0 client l N (Q0 .eql ((Q7 Qs.cells l).length:Int) 0) 0 []
def Q1c {N} {r_0} {client} {l} {r} (h:Xe N r_0 client l=some r):Qtu Tryz.prog G1 63 (Q2.cells r_0) [.str client,.slice 3 (Q7 Qs.cells l)] (.tuple []) (Q2.cells r.2):=by
 refine Q78 k63 ?_;unfold Xe at h;rw [cX] at h;refine lpA (τ:=Bool×Int×(List Q5)) (fun ⟨in24,i25,l26⟩=>(.ptr 0 0::iS client :: .p (.slice 3 (Q7 Qs.cells l))::a2 (.any :: .slice 2 1 0 l26.length :: .p (.bool in24)::iI i25::a16 (a16 (a16 (a4 (a2 ([])))))):List AV)) (fun ⟨_,_,l26⟩=>(.cells (.p (.slice 2 (Q7 Q5.cells r_0.L)) :: []) :: .cells (Xh Q5.cells l26) :: []:List AObj)) (fun n0 ⟨in24,i25,l26⟩=>Qj N r_0 client l n0 in24 i25 l26) ((Ql6 .eql ((Q7 Qs.cells l).length:Int) 0),0,[]) h fun n0 ⟨in24,i25,l26⟩ h=>?_
 first | rw [Qj] at h | simp only [Qj] at h
 rw [cX,cY] at h;apply iU h<;>intro h
 ·refine xR h fun y28 h=>?_;apply iU h<;>intro h
  ·apply iU h<;>intro h
   ·obtain ⟨hk32,h⟩:=Q6a h;refine Q3a (W8 (c:=Q5.cells) (e:=2) (fun _=>rfl) sd hk32) (Ja (c:=Q5.cells) [(⟨client,l⟩:Q5)] rfl ?_);apply iU h<;>intro h
    ·obtain ⟨hk34,h⟩:=Q6a h;refine Q3a (W8 (c:=Q5.cells) (e:=2) (fun _=>rfl) sd hk34) (Ja (c:=Q5.cells) [y28] rfl ?_);show Exists _;exact ⟨(n0,true,(wrap .i64 (i25+1)),((l26 ++ [(⟨client,l⟩:Q5)]) ++ [y28])),h,Lc _,(rho [0,6]),Z6⟩
    show Exists _;exact ⟨(n0,true,(wrap .i64 (i25+1)),(l26 ++ [(⟨client,l⟩:Q5)])),h,Lc _,(rho [0,4]),Z6⟩
   apply iU h<;>intro h
   ·obtain ⟨hk36,h⟩:=Q6a h;refine Q3a (W8 (c:=Q5.cells) (e:=2) (fun _=>rfl) sd hk36) (Ja (c:=Q5.cells) [y28] rfl ?_);exact ff
   exact fQ
  apply iU h<;>intro h
  ·obtain ⟨hk38,h⟩:=Q6a h;refine Q3a (W8 (c:=Q5.cells) (e:=2) (fun _=>rfl) sd hk38) (Ja (c:=Q5.cells) [y28] rfl ?_);exact ff
  exact fQ
 apply iU h<;>intro h
 ·obtain ⟨hk40,h⟩:=Q6a h;refine Q3a (W8 (c:=Q5.cells) (e:=2) (fun _=>rfl) sd hk40) (Ja (c:=Q5.cells) [(⟨client,l⟩:Q5)] rfl ?_)
  obtain rfl:=Qe h;exact ⟨_,_,rfl,(.cons (frz_own (c:=Q5.cells) (l:=((l26 ++ [(⟨client,l⟩:Q5)]):List Q5)) (fun _=>rfl) rfl (by decide) sd) .nil),fq⟩
 obtain rfl:=Qe h;exact ⟨_,_,rfl,(.cons (frz_own (c:=Q5.cells) (l:=(l26:List Q5)) (fun _=>rfl) rfl (by decide) sd) .nil),fq⟩
def Za (N:Nat) (client:List UInt8) (name:List UInt8) (id:Int) (v6:(List Qs)×Q2):Nat->Int->Option ((Int)×Q2)
 | 0,_=>none
 | n+1,i37=>
  cond (Q0 .lss i37 ((Q7 Qs.cells v6.1).length:Int))
  ((idx v6.1 i37).bind fun y39=>
  cond (Q0 .eql y39.ID id)
  (some (16,v6.2))
  ((idx v6.1 i37).bind fun y42=>
  cond (Q10 .eql y42.Name name)
  (some (16,v6.2))
  (Za N client name id v6 n (wrap .i64 (i37+1)))))
  ((Jh N v6.1 (⟨id,name,true⟩:Qs)).bind fun v45=>
  (Xe N v6.2 client v45).bind fun v47=>
  some (0,v47.2))
def Zo (N:Nat) (client:List UInt8) (name:List UInt8) (id:Int) (v6:(List Qs)×Q2):Nat->Int->Option ((Int)×Q2)
 | 0,_=>none
 | n+1,i17=>
  cond (Q0 .lss i17 ((Q7 Qs.cells v6.1).length:Int))
  ((idx v6.1 i17).bind fun y19=>
  cond (((y19.ID:Int) == id)&&(((y19.Name:List UInt8) == name)&&(((y19.Fixed:Bool) == true)&&true)))
  (some (0,v6.2))
  (Zo N client name id v6 n (wrap .i64 (i17+1))))
  (Za N client name id v6 N 0)
def Y4 (N:Nat) (r_0:Q2) (client:List UInt8) (name:List UInt8) (id:Int):Option ((Int)×Q2):=
 (Zn N name).bind fun v1=>
 cond (!v1)
 (some (10,r_0))
 (cond (Q0 .lss id 1)
 (some (2,r_0))
 (cond (Q0 .gtr id 65534)
 (some (2,r_0))
 ((Qf N r_0 client).bind fun v6=>
 Zo N client name id v6 N 0)))
def Q3e {N} {r_0} {client} {name} {id} {r} (h:Y4 N r_0 client name id=some r):Qtu Tryz.prog G1 33 (Q2.cells r_0) [.str client,.str name,.int .i64 id] (.int .i64 r.1) (Q2.cells r.2):=by
 refine Q78 k33 ?_;unfold Y4 at h;rw [cX] at h;refine cP h X3 p1 fun v1 h=>?_;apply iU h<;>intro h
 ·exact bJ
 apply iU h<;>intro h
 ·exact bJ
 apply iU h<;>intro h
 ·exact bJ
 refine cM h Z8 rfl p1 fun v6 h=>lpH (τ:=Int) (fun i17=>(.ptr 0 0::iS client::iS name::iI id::a4 (.any :: .p (.slice 3 (Q7 Qs.cells v6.1)) :: .ptr 1 0::iI i17::a16 (a16 (a16 (a8 (a2 ([])))))):List AV)) (fun n0 i17=>Zo N client name id v6 n0 i17) (0) h fun n0 i17 h=>?_
 first | rw [Zo] at h | simp only [Zo] at h
 rw [cX] at h;apply iU h<;>intro h
 ·refine Qd (xR h fun y19 h=>?_);apply iU h<;>intro h
  ·exact bJ
  exact cg
 refine lpH (τ:=Int) (fun i37=>(.ptr 0 0::iS client::iS name::iI id::a4 (.any :: .p (.slice 3 (Q7 Qs.cells v6.1)) :: .ptr 1 0 :: .any::iI i37::a16 (a16 (a16 (a8 (.any :: []))))):List AV)) (fun n1 i37=>Za N client name id v6 n1 i37) (0) h fun n1 i37 h=>?_
 first | rw [Za] at h | simp only [Za] at h
 rw [cX,cY] at h;apply iU h<;>intro h
 ·refine xR h fun y39 h=>?_;apply iU h<;>intro h
  ·exact bJ
  refine xR h fun y42 h=>?_;apply iU h<;>intro h
  ·exact bJ
  show Exists _;exact ⟨(n1,(wrap .i64 (i37+1))),h,Lc _,(fun i=>i),Z6⟩
 refine cP h Q5f (.cons (.p _) (.cons (Ar p3) .nil)) fun v45 h=>cM h Q1c rfl p2 fun v47 h=>?_;exact bJ
def Q3t (N:Nat) (R:Reg) (c n:List UInt8):Option ((Int×Bool×Int)×Reg):=(Wg N n).bind fun b=>if WR R then some (Qil b R c n) else none
def Qeu {N R c n r} (h:Q3t N R c n=some r):Q6f Tryz.prog G1 30 R [.str c,.str n] (.tuple [.int .i64 r.1.1,.bool r.1.2.1,.int .i64 r.1.2.2]) r.2:=by
 obtain ⟨b,hb,h⟩:=Q2h h;split at h
 ·cases h;exact Z7w (by assumption) (Vj hb)
 cases h
def Qt (N:Nat) (client:List UInt8) (name:List UInt8) (v4:(List Qs)×Q2):Nat->Int->Int->Option ((Int×Bool×Int)×Q2)
 | 0,_,_=>none
 | n+1,free27,i28=>
  cond (Q0 .lss i28 ((Q7 Qs.cells v4.1).length:Int))
  ((idx v4.1 i28).bind fun y30=>
  cond (Q10 .eql y30.Name name)
  ((idx v4.1 i28).bind fun y33=>
  some ((y33.ID,false,0),v4.2))
  ((idx v4.1 i28).bind fun y35=>
  cond (Q0 .eql y35.ID free27)
  (Qt N client name v4 n (wrap .i64 (free27+1)) (wrap .i64 (i28+1)))
  (Qt N client name v4 n free27 (wrap .i64 (i28+1)))))
  (cond (Q0 .gtr free27 65534)
  (some ((0,false,12),v4.2))
  ((Jh N v4.1 (⟨free27,name,false⟩:Qs)).bind fun v39=>
  (Xe N v4.2 client v39).bind fun v41=>
  some ((free27,true,0),v41.2)))
def Yc (N:Nat) (r_0:Q2) (client:List UInt8) (name:List UInt8):Option ((Int×Bool×Int)×Q2):=
 (Zn N name).bind fun v1=>
 cond (!v1)
 (some ((0,false,10),r_0))
 ((Qf N r_0 client).bind fun v4=>
 Qt N client name v4 N 1 0)
def Q3u {N} {r_0} {client} {name} {r} (h:Yc N r_0 client name=some r):Qtu Tryz.prog G1 31 (Q2.cells r_0) [.str client,.str name] (.tuple [.int .i64 r.1.1,.bool r.1.2.1,.int .i64 r.1.2.2]) (Q2.cells r.2):=by
 refine Q78 k31 ?_;unfold Yc at h;refine cP h X3 p1 fun v1 h=>?_;apply iU h<;>intro h
 ·exact ee
 refine cM h Z8 rfl p1 fun v4 h=>lpH (τ:=Int×Int) (fun ⟨free27,i28⟩=>(.ptr 0 0::iS client::iS name::a4 (a2 (.p (.slice 3 (Q7 Qs.cells v4.1))::iI free27::iI i28::a16 (a16 (a8 (a4 ([])))))):List AV)) (fun n0 ⟨free27,i28⟩=>Qt N client name v4 n0 free27 i28) (1,0) h fun n0 ⟨free27,i28⟩ h=>?_
 first | rw [Qt] at h | simp only [Qt] at h
 rw [cX,cY] at h;apply iU h<;>intro h
 ·refine xR h fun y30 h=>?_;apply iU h<;>intro h
  ·refine xR h fun y33 h=>?_;exact ee
  refine xR h fun y35 h=>?_;apply iU h<;>intro h
  ·show Exists _;exact ⟨(n0,(wrap .i64 (free27+1)),(wrap .i64 (i28+1))),h,Lc _,(fun i=>i),Z6⟩
  show Exists _;exact ⟨(n0,free27,(wrap .i64 (i28+1))),h,Lc _,(fun i=>i),Z6⟩
 apply iU h<;>intro h
 ·exact ee
 refine cP h Q5f (.cons (.p _) (.cons (Ar p3) .nil)) fun v39 h=>cM h Q1c rfl p2 fun v41 h=>?_;exact ee
def Q5t (_N:Nat) (R:Reg) (c:List UInt8) (id:Int):Option (Bool×Reg):=some (Qc9 R c id,R)
def Q64 {N R c id r} (h:Q5t N R c id=some r):Q6f Tryz.prog G1 578 R [.str c,.int .i64 id] (.bool r.1) r.2:=by cases h;exact Qy1
def Qf3 (_N:Nat) (R:Reg) (c:List UInt8) (id:Int):Option ((List UInt8×Int)×Reg):=some (Qc1 R c id,R)
def Qda {N R c id r} (h:Qf3 N R c id=some r):Q6f Tryz.prog G1 580 R [.str c,.int .i64 id] (.tuple [.str r.1.1,.int .i64 r.1.2]) r.2:=by cases h;exact Z0r
def Q3s (_N:Nat) (l:Yq):Option Bool:=
 cond (Q0 .geq l.MaxPacket 16)
 (cond (Q0 .leq l.MaxPacket 1048576)
 (cond (Q0 .geq l.MaxDepth 0)
 (some (Q0 .leq l.MaxDepth 32))
 (some false))
 (some false))
 (some false)
def Qf0 {N} {l} {r} (h:Q3s N l=some r):pU 102 [.agg (Yq.cells l)] (.bool r):=by
 refine Q1 Zqp ?_;unfold Q3s at h;exact bW
def Q18 (_N:Nat) (h_0:Vc):Option Bool:=
 cond (Q0 .geq h_0.Radius 0)
 (cond (Q0 .leq h_0.Radius 3)
 (cond (Q0 .geq (h_0.Node.length:Int) 1)
 (some (Q0 .leq (h_0.Node.length:Int) 32))
 (some false))
 (some false))
 (some false)
def Qc3 {N} {h_0} {r} (h:Q18 N h_0=some r):pU 105 [.agg (Vc.cells h_0)] (.bool r):=by
 refine Q1 Zqr ?_;unfold Q18 at h;exact bW
def Q27 (N:Nat) (h_0:Vc):Option Bool:=
 (Q18 N h_0).bind fun v1=>
 some (!v1)
def Qcy {N} {h_0} {r} (h:Q27 N h_0=some r):pU 104 [.agg (Vc.cells h_0)] (.bool r):=by
 refine Q1 Zup ?_;unfold Q27 at h;refine cP h Qc3 (.cons q2 .nil) fun v1 h=>?_;exact am
def Xu (_N:Nat) (c:Q3):Option ((Unit)×Q3):=
 cond (Q0 .eql c.do' 0)
 (some ((),(⟨c.do',(⟨c.m.Type',c.m.Flags,c.m.Gateway,c.m.Radius,c.m.Time,c.m.Timed,c.m.TopicID,c.m.MsgID,c.m.Code,c.m.Name,[]⟩:Xl),c.out,c.bad⟩:Q3)))
 (cond (Q0 .eql c.do' 1)
 (cond (Nat.beq c.m.Data.length 0)
 (some ((),c))
 (cond (Nat.ble ((c.out.length+c.m.Data.length+4096) * 1) 17592186044416) (some ((),(⟨c.do',c.m,(c.out++(c.m.Data.map fun b=>(b.toNat:Int))),c.bad⟩:Q3))) none))
 (some ((),(⟨c.do',(⟨c.m.Type',c.m.Flags,c.m.Gateway,c.m.Radius,c.m.Time,c.m.Timed,c.m.TopicID,c.m.MsgID,c.m.Code,c.m.Name,[]⟩:Xl),c.out,c.bad⟩:Q3))))
def Q2p {N} {c} {r} (h:Xu N c=some r):gU 352 (.ptr 0 0 :: []) (.cells (Q12 c 1) :: .cells (Xh (cI .u8) c.out) :: []) (.tuple []) (.cells (Q12 r.2 2) :: .dead :: .cells (Xh (cI .u8) r.2.out) :: []):=by
 refine Q0l Ztq (Lj rfl) ?_;unfold Xu at h;rw [cX] at h;refine Q8 Zbx ?_;apply iU h<;>intro h
 ·exact br
 apply iU h<;>intro h
 ·refine Qd (Q85 (b:=c.m.Data) ?_);apply iU h<;>intro h
  ·exact ah
  obtain ⟨hk4,h⟩:=Q6a h;refine Q3a (W8 (c:=(cI .u8)) (e:=1) (l:=c.out) (fun _=>rfl) sd hk4) (Ja (c:=(cI .u8)) (l:=c.out) (c.m.Data.map fun b=>(b.toNat:Int)) rfl ?_);exact bx
 exact ah
def Q3i (N:Nat) (s_0:List UInt8):Nat->Int->Int->Option Int
 | 0,_,_=>none
 | n+1,n12,s13=>
  cond (Q0 .lss s13 (((s_0.take s_0.length).drop ((wrap .i64 ((s_0.length:Int) - 8)).toNat)).length:Int))
  ((idx ((s_0.take s_0.length).drop ((wrap .i64 ((s_0.length:Int) - 8)).toNat)) s13).bind fun b15=>
  Q3i N s_0 n (orI .u64 (Q8t .u64 n12 8) (wrap .u64 (b15.toNat:Int))) (wrap .i64 (s13+1)))
  (some n12)
def Q0v (N:Nat) (s_0:List UInt8):Nat->Int->Int->Option Int
 | 0,_,_=>none
 | n+1,n25,s26=>
  cond (Q0 .lss s26 (s_0.length:Int))
  ((idx s_0 s26).bind fun b28=>
  Q0v N s_0 n (orI .u64 (Q8t .u64 n25 8) (wrap .u64 (b28.toNat:Int))) (wrap .i64 (s26+1)))
  (some n25)
def Um (N:Nat) (s_0:List UInt8):Option Int:=
 cond (Q0 .gtr (s_0.length:Int) 8)
 (cond (decide (0≤(wrap .i64 ((s_0.length:Int) - 8)))) (cond (Nat.ble (wrap .i64 ((s_0.length:Int) - 8)).toNat s_0.length&&Nat.ble s_0.length s_0.length) (Q3i N s_0 N 0 0) none) none)
 (Q0v N s_0 N 0 0)
def Jn {N} {s_0} {r} (h:Um N s_0=some r):pU 224 [.str s_0] (.int .u64 r):=by
 refine Q1 Zrs ?_;unfold Um at h;rw [cX] at h;apply iU h<;>intro h
 ·refine kU h fun h=>kU h fun h=>lpH (τ:=Int×Int) (fun ⟨n12,s13⟩=>(.p (.str ((s_0.take s_0.length).drop ((wrap .i64 ((s_0.length:Int) - 8)).toNat))) :: .any :: .any::iW n12::a8 (a2 (.p (.int .i64 (((s_0.take s_0.length).drop ((wrap .i64 ((s_0.length:Int) - 8)).toNat)).length:Int))::iI s13::a8 (a2 (.any :: [])))):List AV)) (fun n0 ⟨n12,s13⟩=>Q3i N s_0 n0 n12 s13) (0,0) h fun n0 ⟨n12,s13⟩ h=>?_
  first | rw [Q3i] at h | simp only [Q3i] at h
  rw [cX] at h;refine iR h fun h=>xB h fun b15 h=>?_;show Exists _;exact ⟨(n0,(orI .u64 (Q8t .u64 n12 8) (wrap .u64 (b15.toNat:Int))),(wrap .i64 (s13+1))),h,Lc _,(fun i=>i),Z6⟩
 refine lpH (τ:=Int×Int) (fun ⟨n25,s26⟩=>(iS s_0 :: .any :: .any::iW n25::a8 (a2 (iI (s_0.length:Int)::iI s26::a8 (a2 (.any :: [])))):List AV)) (fun n1 ⟨n25,s26⟩=>Q0v N s_0 n1 n25 s26) (0,0) h fun n1 ⟨n25,s26⟩ h=>?_
 first | rw [Q0v] at h | simp only [Q0v] at h
 rw [cX] at h;refine iR h fun h=>xB h fun b28 h=>?_;show Exists _;exact ⟨(n1,(orI .u64 (Q8t .u64 n25 8) (wrap .u64 (b28.toNat:Int))),(wrap .i64 (s26+1))),h,Lc _,(fun i=>i),Z6⟩
def Vi (N:Nat) (n_0:Int) (size:Int):Nat->Int->(List Int)->Option (List UInt8)
 | 0,_,_=>none
 | n+1,s14,l15=>
  cond (Q0 .lss s14 (ifB (decide (16<size)) 16 size))
  (cond (Q0 .lss s14 8)
  (cond (decide (0≤(wrap .u64 (wrap .i64 (8 * s14))))) ((idx (l15:List Int) (wrap .i64 ((wrap .i64 ((ifB (decide (16<size)) 16 size) - 1)) - s14))).bind fun y19=>
  Vi N n_0 size n (wrap .i64 (s14+1)) ((l15:List Int).set (Int.toNat (wrap .i64 ((wrap .i64 ((ifB (decide (16<size)) 16 size) - 1)) - s14))) (wrap .u8 (Qcj .u64 n_0 (wrap .u64 (wrap .i64 (8 * s14))))))) none)
  (Vi N n_0 size n (wrap .i64 (s14+1)) l15))
  (some (l15.map fun n=>UInt8.ofNat n.toNat))
def Z2 (N:Nat) (n_0:Int) (size:Int):Option (List UInt8):=
 cond (Q0 .leq size 0)
 (some [])
 (cond (decide (0≤(ifB (decide (16<size)) 16 size))&&decide ((ifB (decide (16<size)) 16 size)≤(ifB (decide (16<size)) 16 size))&&decide ((ifB (decide (16<size)) 16 size) * 1≤1099511627776)) (Vi N n_0 size N 0 (List.replicate ((ifB (decide (16<size)) 16 size):Int).toNat (0:Int))) none)
def Zl {N} {n_0} {size} {r} (h:Z2 N n_0 size=some r):pU 167 [.int .u64 n_0,.int .i64 size] (.str r):=by
 refine Q1 Zl2 ?_;unfold Z2 at h;rw [cX] at h;refine iL h fun h=>kU h fun h=>Z64 (c:=(cI .u8)) (0:Int) rfl (lpC (τ:=Int×(List Int)) (fun ⟨s14,l15⟩=>(iW n_0 :: .p (.int .i64 (ifB (decide (16<size)) 16 size))::a2 (.any :: .slice 1 1 0 l15.length::a4 (a2 (.any :: .p (.int .i64 (ifB (decide (16<size)) 16 size))::iI s14::a16 (a2 (.any :: []))))):List AV)) (fun ⟨_,l15⟩=>(.dead :: .cells (Xh (cI .u8) l15) :: []:List AObj)) (fun n0 ⟨s14,l15⟩=>Vi N n_0 size n0 s14 l15) (0,(List.replicate ((ifB (decide (16<size)) 16 size):Int).toNat (0:Int))) h (rho [0,0]) Z6 fun n0 ⟨s14,l15⟩ h=>?_)
 first | rw [Vi] at h | simp only [Vi] at h
 rw [cX] at h;apply iU h<;>intro h
 ·apply iU h<;>intro h
  ·refine kU h fun h=>?_;obtain ⟨y19,hy20,h⟩:=Q2h h;refine Q3a (Q9r hy20 sd) (Q3a (Q59 (c:=(cI .u8)) (e:=1) (fun _=>rfl) hy20 (off:=0) (by omega) rfl (by decide)) ?_)
   refine Q4o (c:=(cI .u8)) (e:=1) (fun _=>rfl) hy20 (wrap .u8 (Qcj .u64 n_0 (wrap .u64 (wrap .i64 (8 * s14))))) (off:=0) aq rfl (by simp) ?_
   show Exists _;exact ⟨(n0,(wrap .i64 (s14+1)),((l15:List Int).set (Int.toNat (wrap .i64 ((wrap .i64 ((ifB (decide (16<size)) 16 size) - 1)) - s14))) (wrap .u8 (Qcj .u64 n_0 (wrap .u64 (wrap .i64 (8 * s14))))))),h,Lc _,(fun i=>i),Z6⟩
  show Exists _;exact ⟨(n0,(wrap .i64 (s14+1)),l15),h,Lc _,(fun i=>i),Z6⟩
 refine Qj1 (l:=l15) (n:=l15.length) sd ?_;exact am
def Y1 (N:Nat) (c:Q3):Option ((Unit)×Q3):=
 cond (Q0 .eql c.do' 0)
 ((Um N []).bind fun v2=>
 some ((),(⟨c.do',(⟨c.m.Type',c.m.Flags,c.m.Gateway,c.m.Radius,c.m.Time,c.m.Timed,(wrap .i64 v2),c.m.MsgID,c.m.Code,c.m.Name,c.m.Data⟩:Xl),c.out,c.bad⟩:Q3)))
 (cond (Q0 .eql c.do' 1)
 ((Z2 N (wrap .u64 c.m.TopicID) 2).bind fun v5=>
 cond (!(Nat.beq v5.length 0)) (cond (Nat.ble ((c.out.length+v5.length+4096) * 1) 17592186044416) (some ((),(⟨c.do',c.m,(c.out++(v5.map fun b=>(b.toNat:Int))),c.bad⟩:Q3))) none) none)
 (cond c.bad
 (some ((),(⟨c.do',(⟨c.m.Type',c.m.Flags,c.m.Gateway,c.m.Radius,c.m.Time,c.m.Timed,0,c.m.MsgID,c.m.Code,c.m.Name,c.m.Data⟩:Xl),c.out,true⟩:Q3)))
 (cond (Q0 .lss c.m.TopicID 0)
 (some ((),(⟨c.do',(⟨c.m.Type',c.m.Flags,c.m.Gateway,c.m.Radius,c.m.Time,c.m.Timed,0,c.m.MsgID,c.m.Code,c.m.Name,c.m.Data⟩:Xl),c.out,true⟩:Q3)))
 (some ((),(⟨c.do',(⟨c.m.Type',c.m.Flags,c.m.Gateway,c.m.Radius,c.m.Time,c.m.Timed,0,c.m.MsgID,c.m.Code,c.m.Name,c.m.Data⟩:Xl),c.out,(Q0 .geq c.m.TopicID (Q8t .i64 1 16))⟩:Q3))))))
def Jb {N} {c} {r} (h:Y1 N c=some r):gU 353 (.ptr 0 0 :: []) (.cells (Q12 c 1) :: .cells (Xh (cI .u8) c.out) :: []) (.tuple []) (.cells (Q12 r.2 2) :: .dead :: .cells (Xh (cI .u8) r.2.out) :: []):=by
 refine Q0l Zrn (Lj rfl) ?_;unfold Y1 at h;rw [cX] at h;refine Q8 Z1y ?_;apply iU h<;>intro h
 ·exact bc
 exact aa
def Zd (N:Nat) (c:Q3):Option ((Unit)×Q3):=
 cond (Q0 .eql c.do' 0)
 ((Um N []).bind fun v2=>
 some ((),(⟨c.do',(⟨c.m.Type',c.m.Flags,c.m.Gateway,c.m.Radius,c.m.Time,c.m.Timed,c.m.TopicID,(wrap .i64 v2),c.m.Code,c.m.Name,c.m.Data⟩:Xl),c.out,c.bad⟩:Q3)))
 (cond (Q0 .eql c.do' 1)
 ((Z2 N (wrap .u64 c.m.MsgID) 2).bind fun v5=>
 cond (!(Nat.beq v5.length 0)) (cond (Nat.ble ((c.out.length+v5.length+4096) * 1) 17592186044416) (some ((),(⟨c.do',c.m,(c.out++(v5.map fun b=>(b.toNat:Int))),c.bad⟩:Q3))) none) none)
 (cond c.bad
 (some ((),(⟨c.do',(⟨c.m.Type',c.m.Flags,c.m.Gateway,c.m.Radius,c.m.Time,c.m.Timed,c.m.TopicID,0,c.m.Code,c.m.Name,c.m.Data⟩:Xl),c.out,true⟩:Q3)))
 (cond (Q0 .lss c.m.MsgID 0)
 (some ((),(⟨c.do',(⟨c.m.Type',c.m.Flags,c.m.Gateway,c.m.Radius,c.m.Time,c.m.Timed,c.m.TopicID,0,c.m.Code,c.m.Name,c.m.Data⟩:Xl),c.out,true⟩:Q3)))
 (some ((),(⟨c.do',(⟨c.m.Type',c.m.Flags,c.m.Gateway,c.m.Radius,c.m.Time,c.m.Timed,c.m.TopicID,0,c.m.Code,c.m.Name,c.m.Data⟩:Xl),c.out,(Q0 .geq c.m.MsgID (Q8t .i64 1 16))⟩:Q3))))))
def Yl {N} {c} {r} (h:Zd N c=some r):gU 354 (.ptr 0 0 :: []) (.cells (Q12 c 1) :: .cells (Xh (cI .u8) c.out) :: []) (.tuple []) (.cells (Q12 r.2 2) :: .dead :: .cells (Xh (cI .u8) r.2.out) :: []):=by
 refine Q0l Zr0 (Lj rfl) ?_;unfold Zd at h;rw [cX] at h;refine Q8 Z1y ?_;apply iU h<;>intro h
 ·exact bc
 exact aa
def Qm (_N:Nat) (c:Q3):Option ((Unit)×Q3):=
 cond (Q0 .eql c.do' 0)
 (some ((),(⟨c.do',(⟨c.m.Type',c.m.Flags,c.m.Gateway,c.m.Radius,c.m.Time,c.m.Timed,c.m.TopicID,c.m.MsgID,c.m.Code,[],c.m.Data⟩:Xl),c.out,c.bad⟩:Q3)))
 (cond (Q0 .eql c.do' 1)
 (cond (Nat.beq c.m.Name.length 0)
 (some ((),c))
 (cond (Nat.ble ((c.out.length+c.m.Name.length+4096) * 1) 17592186044416) (some ((),(⟨c.do',c.m,(c.out++(c.m.Name.map fun b=>(b.toNat:Int))),c.bad⟩:Q3))) none))
 (some ((),(⟨c.do',(⟨c.m.Type',c.m.Flags,c.m.Gateway,c.m.Radius,c.m.Time,c.m.Timed,c.m.TopicID,c.m.MsgID,c.m.Code,[],c.m.Data⟩:Xl),c.out,c.bad⟩:Q3))))
def X6 {N} {c} {r} (h:Qm N c=some r):gU 347 (.ptr 0 0 :: []) (.cells (Q12 c 1) :: .cells (Xh (cI .u8) c.out) :: []) (.tuple []) (.cells (Q12 r.2 2) :: .dead :: .cells (Xh (cI .u8) r.2.out) :: []):=by
 refine Q0l Zm5 (Lj rfl) ?_;unfold Qm at h;rw [cX] at h;refine Q8 Zbx ?_;apply iU h<;>intro h
 ·exact br
 apply iU h<;>intro h
 ·refine Qd (Q85 (b:=c.m.Name) ?_);apply iU h<;>intro h
  ·exact ah
  obtain ⟨hk4,h⟩:=Q6a h;refine Q3a (W8 (c:=(cI .u8)) (e:=1) (l:=c.out) (fun _=>rfl) sd hk4) (Ja (c:=(cI .u8)) (l:=c.out) (c.m.Name.map fun b=>(b.toNat:Int)) rfl ?_);exact bx
 exact ah
def W6 (N:Nat) (c:Q3):Option ((Unit)×Q3):=
 cond (Q0 .eql c.m.Flags.Type' 0)
 ((Qm N c).bind fun v2=>
 some ((),v2.2))
 ((Y1 N c).bind fun v4=>
 some ((),v4.2))
def Q5d {N} {c} {r} (h:W6 N c=some r):gU 355 (.ptr 0 0 :: []) (.cells (Q12 c 1) :: .cells (Xh (cI .u8) c.out) :: []) (.tuple []) (.cells (Q12 r.2 2) :: .dead :: .cells (Xh (cI .u8) r.2.out) :: []):=by
 refine Q0l Zjy (Lj rfl) ?_;unfold W6 at h;rw [cX] at h;apply iU h<;>intro h
 ·refine cG h X6 fun v2 h=>⟨rho [0,1],(.cells (Q12 v2.2 2) :: .dead :: .cells (Xh (cI .u8) v2.2.out) :: []),.tuple [],gcQ,?_⟩;exact bx
 refine cG h Jb fun v4 h=>⟨rho [0,1],(.cells (Q12 v4.2 2) :: .dead :: .cells (Xh (cI .u8) v4.2.out) :: []),.tuple [],gcQ,?_⟩;exact bx
def Xv (N:Nat) (c:Q3):Option ((Unit)×Q3):=
 cond (Q0 .eql c.do' 0)
 ((Um N []).bind fun v2=>
 some ((),(⟨c.do',(⟨c.m.Type',c.m.Flags,c.m.Gateway,c.m.Radius,(wrap .i64 v2),c.m.Timed,c.m.TopicID,c.m.MsgID,c.m.Code,c.m.Name,c.m.Data⟩:Xl),c.out,c.bad⟩:Q3)))
 (cond (Q0 .eql c.do' 1)
 ((Z2 N (wrap .u64 c.m.Time) 2).bind fun v5=>
 cond (!(Nat.beq v5.length 0)) (cond (Nat.ble ((c.out.length+v5.length+4096) * 1) 17592186044416) (some ((),(⟨c.do',c.m,(c.out++(v5.map fun b=>(b.toNat:Int))),c.bad⟩:Q3))) none) none)
 (cond c.bad
 (some ((),(⟨c.do',(⟨c.m.Type',c.m.Flags,c.m.Gateway,c.m.Radius,0,c.m.Timed,c.m.TopicID,c.m.MsgID,c.m.Code,c.m.Name,c.m.Data⟩:Xl),c.out,true⟩:Q3)))
 (cond (Q0 .lss c.m.Time 0)
 (some ((),(⟨c.do',(⟨c.m.Type',c.m.Flags,c.m.Gateway,c.m.Radius,0,c.m.Timed,c.m.TopicID,c.m.MsgID,c.m.Code,c.m.Name,c.m.Data⟩:Xl),c.out,true⟩:Q3)))
 (some ((),(⟨c.do',(⟨c.m.Type',c.m.Flags,c.m.Gateway,c.m.Radius,0,c.m.Timed,c.m.TopicID,c.m.MsgID,c.m.Code,c.m.Name,c.m.Data⟩:Xl),c.out,(Q0 .geq c.m.Time (Q8t .i64 1 16))⟩:Q3))))))
def Q2x {N} {c} {r} (h:Xv N c=some r):gU 345 (.ptr 0 0 :: []) (.cells (Q12 c 1) :: .cells (Xh (cI .u8) c.out) :: []) (.tuple []) (.cells (Q12 r.2 2) :: .dead :: .cells (Xh (cI .u8) r.2.out) :: []):=by
 refine Q0l Zm3 (Lj rfl) ?_;unfold Xv at h;rw [cX] at h;refine Q8 Z1y ?_;apply iU h<;>intro h
 ·exact bc
 exact aa
end
end
end Go.Av
