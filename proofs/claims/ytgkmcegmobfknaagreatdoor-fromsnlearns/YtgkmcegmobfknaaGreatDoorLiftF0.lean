/- Part of FromsnLearns: the law returns true; no condition. -/
import Derived.Test.YtgkmcegmobfknaaGreatDoorChks
import Derived.Test.YtgkmcegmobfknaaGreatDoorSeat1
import Derived.Test.YtgkmcegmobfknaaGreatDoorRound
import Derived.Test.YtgkmcegmobfknaaGreatDoorRegT
import Derived.Test.YtgkmcegmobfknaaGreatDoorClosed5
import Derived.Test.YtgkmcegmobfknaaGreatDoorTpClearA
set_option linter.all false
open Go.IntKind (wrap)
namespace Go.Av
noncomputable section
open Go.Proofs
set_option maxRecDepth 100000
set_option maxHeartbeats 4000000
attribute [local irreducible] Wb Qd Q4s Q3q Qus Ql7 Qgi
section
abbrev pU:=Q7x Tryz.prog G1
abbrev gU:=GC Tryz.prog G1
def Q1a (_N:Nat):Option Bool:=some true
theorem Q2s {N r} (h:Q1a N=some r):pU 4 [] (.bool r):=by cases h;exact Qgx Qzt (N:=4000) (d:=60) (by kernel_rfl)
def Ys (N:Nat) (l:List Q9):Nat->Int->Option Bool
 | 0,_=>none
 | n+1,i17=>
  cond (Q2 .lss i17 ((Qi Q9.cells l).length:Int))
  ((idx l i17).bind fun y19=>
  cond (Q2 .gtr (y19.Client.length:Int) 100)
  (some false)
  ((idx l i17).bind fun y22=>
  cond (Q2 .gtr (y22.Name.length:Int) 200)
  (some false)
  (Ys N l n (wrap .i64 (i17+1)))))
  (some (Q2 .leq ((Qi Q9.cells l).length:Int) 20))
def Ul (N:Nat) (l:List Q9):Option Bool:=
 Ys N l N 0
theorem Q32 {N} {l} {r} (h:Ul N l=some r):pU 5 [.slice 3 (Qi Q9.cells l)] (.bool r):=by
 refine Q5 k5 ?_;unfold Ul at h;refine lpH (τ:=Int) (fun i17=>(.p (.slice 3 (Qi Q9.cells l)) :: .any :: .any::iI i17::a16 (a8 (.any :: [])):List AV)) (fun n0 i17=>Ys N l n0 i17) (0) h fun n0 i17 h=>?_
 first | rw [Ys] at h | simp only [Ys] at h
 rw [cX] at h;refine iR h fun h=>?_;refine xR h fun y19 h=>?_;refine iL h fun h=>?_;refine xR h fun y22 h=>?_;refine iL h fun h=>?_;show Exists _;exact ⟨(n0,(wrap .i64 (i17+1))),h,Lg _,(fun i=>i),Y7⟩
def U7 (_N:Nat) (m:Yw):Option Bool:=
 cond (Q2 .leq (m.Name.length:Int) 70000)
 (some (Q2 .leq (m.Data.length:Int) 70000))
 (some false)
theorem Q2k {N} {m} {r} (h:U7 N m=some r):pU 6 [.agg (Yw.cells m)] (.bool r):=by
 refine Q5 k6 ?_;unfold U7 at h;rw [cX] at h;exact iB h
def G0 (_N:Nat) (s_0:List UInt8):Option Bool:=
 cond (Q2 .geq (s_0.length:Int) 3)
 (cond (Nat.ble 0 3&&Nat.ble 3 s_0.length) (some (Jz .eql ((s_0.take 3).drop 0) [239,191,189])) none)
 (some false)
theorem Q7t {N} {s_0} {r} (h:G0 N s_0=some r):pU 149 [.str s_0] (.bool r):=by
 refine Q5 Z3j ?_;unfold G0 at h;rw [cX,cY] at h;refine iR h fun h=>?_;refine kU h fun h=>?_;cases h;exact (.p _)
def Wj (N:Nat) (s_0:List UInt8):Nat->Nat->Option Int
 | 0,_=>none
 | n+1,pos16=>
  cond (Nat.blt pos16 s_0.length)
  (cond (Q2 .eql (((Q7w s_0 pos16).1:Nat):Int) 0)
  (some ((pos16:Nat):Int))
  (cond (Q2 .eql (((Q7w s_0 pos16).1:Nat):Int) 65533)
  (cond (Nat.ble pos16 s_0.length&&Nat.ble s_0.length s_0.length) ((G0 N ((s_0.take s_0.length).drop pos16)).bind fun v21=>
  cond (!v21)
  (some ((pos16:Nat):Int))
  (Wj N s_0 n (pos16+(Q7w s_0 pos16).2))) none)
  (Wj N s_0 n (pos16+(Q7w s_0 pos16).2))))
  (some (-1))
def Q1l (N:Nat) (s_0:List UInt8):Option Int:=
 Wj N s_0 N 0
theorem Q9m {N} {s_0} {r} (h:Q1l N s_0=some r):pU 132 [.str s_0] (.int .i64 r):=by
 refine Q5 Z4x ?_;unfold Q1l at h;refine lpA (τ:=Nat) (fun _=>(iS s_0::a4 (.any :: .ptr 0 0::a16 (a2 ([]))):List AV)) (fun pos16=>(.strIter s_0 pos16 :: []:List AObj)) (fun n0 pos16=>Wj N s_0 n0 pos16) (0) h fun n0 pos16 h=>?_
 first | rw [Wj] at h | simp only [Wj] at h
 rw [cX] at h;refine iR h fun h=>?_;refine iL h fun h=>?_;apply iU h<;>intro h
 ·refine kU h fun h=>?_;refine cP h Q7t p1 fun v21 h=>?_;refine iL h fun h=>?_;show Exists _;exact ⟨(n0,(pos16+(Q7w s_0 pos16).2)),h,Lg _,(fun i=>i),Y7⟩
 show Exists _;exact ⟨(n0,(pos16+(Q7w s_0 pos16).2)),h,Lg _,(fun i=>i),Y7⟩
def Vs (N:Nat) (s_0:List UInt8):Option Bool:=
 cond (Q2 .leq (s_0.length:Int) 65535)
 ((Q1l N s_0).bind fun v2=>
 some (Q2 .eql v2 (-1)))
 (some false)
theorem Q05 {N} {s_0} {r} (h:Vs N s_0=some r):pU 97 [.str s_0] (.bool r):=by
 refine Q5 k97 ?_;unfold Vs at h;rw [cX] at h;refine iR h fun h=>?_;refine cP h Q9m p1 fun v2 h=>?_;cases h;exact (.p _)
def Q1d (N:Nat) (s_0:List UInt8):Option Bool:=
 cond (Jz .neq s_0 [])
 ((Vs N s_0).bind fun v2=>
 some v2)
 (some false)
theorem Q4v {N} {s_0} {r} (h:Q1d N s_0=some r):pU 78 [.str s_0] (.bool r):=by
 refine Q5 k78 ?_;unfold Q1d at h;rw [cY] at h;refine iR h fun h=>?_;refine cP h Q05 p1 fun v2 h=>?_;cases h;exact (.p _)
def Zg (_N:Nat) (s_0:List UInt8) (c:Int):Option Int:=
 some (Q9a s_0 (UInt8.ofNat (Int.toNat c)) 0:Int)
theorem Vy {N} {s_0} {c} {r} (h:Zg N s_0 c=some r):pU 162 [.str s_0,.int .u8 c] (.int .i64 r):=by
 refine Q5 Z5v ?_;unfold Zg at h;cases h;exact (.p _)
def Jd (N:Nat) (s_0:List UInt8) (c:Int):Option Int:=
 (Zg N s_0 c).bind fun v1=>
 some v1
theorem Q0o {N} {s_0} {c} {r} (h:Jd N s_0 c=some r):pU 153 [.str s_0,.int .u8 c] (.int .i64 r):=by
 refine Q5 Z74 ?_;unfold Jd at h;refine cP h Vy p2 fun v1 h=>?_;cases h;exact (.p _)
def Xz (_N:Nat) (r_0:Int):Option Bool:=
 cond (Q2 .leq 0 r_0)
 (cond (Q2 .lss r_0 55296)
 (some true)
 (cond (Q2 .lss 57343 r_0)
 (cond (Q2 .leq r_0 1114111)
 (some true)
 (some false))
 (some false)))
 (cond (Q2 .lss 57343 r_0)
 (cond (Q2 .leq r_0 1114111)
 (some true)
 (some false))
 (some false))
theorem Q1u {N} {r_0} {r} (h:Xz N r_0=some r):pU 154 [.int .i32 r_0] (.bool r):=by
 refine Q5 Z63 ?_;unfold Xz at h;rw [cX] at h;apply iU h<;>intro h
 ·refine iL h fun h=>?_;refine iR h fun h=>?_;exact iB h
 refine iR h fun h=>?_;exact iB h
def Y8 (N:Nat) (s_0:List UInt8):Nat->Nat->Option Int
 | 0,_=>none
 | n+1,pos13=>
  cond (Nat.blt pos13 s_0.length)
  (cond (Q2 .eql (((Q7w s_0 pos13).1:Nat):Int) 65533)
  (some ((pos13:Nat):Int))
  (Y8 N s_0 n (pos13+(Q7w s_0 pos13).2)))
  (some (-1))
def Ws (N:Nat) (s_0:List UInt8) (r_1:Int) (v82:Int):Nat->Int->Option Int
 | 0,_=>none
 | n+1,j98=>
  cond (Q2 .lss j98 (((Utf8.encode r_1).data.toList).length:Int))
  ((idx s_0 (wrap .i64 ((wrap .i64 ((wrap .i64 ((((Utf8.encode r_1).data.toList).length:Int) - 1))+(wrap .i64 (v82+1)))) - j98))).bind fun b100=>
  (idx ((Utf8.encode r_1).data.toList) (wrap .i64 ((wrap .i64 ((((Utf8.encode r_1).data.toList).length:Int) - 1)) - j98))).bind fun b102=>
  cond (Q2 .neq (b100.toNat:Int) (b102.toNat:Int))
  (none)
  (Ws N s_0 r_1 v82 n (wrap .i64 (j98+1))))
  (some (wrap .i64 ((wrap .i64 ((wrap .i64 ((((Utf8.encode r_1).data.toList).length:Int) - 1))+(wrap .i64 (v82+1)))) - (wrap .i64 ((((Utf8.encode r_1).data.toList).length:Int) - 1)))))
def Wn (N:Nat) (s_0:List UInt8) (r_1:Int):Nat->Int->Option Int
 | 0,_=>none
 | n+1,j118=>
  cond (Q2 .lss j118 (((Utf8.encode r_1).data.toList).length:Int))
  ((idx s_0 (wrap .i64 ((wrap .i64 ((((Utf8.encode r_1).data.toList).length:Int) - 1)) - j118))).bind fun b120=>
  (idx ((Utf8.encode r_1).data.toList) (wrap .i64 ((wrap .i64 ((((Utf8.encode r_1).data.toList).length:Int) - 1)) - j118))).bind fun b122=>
  cond (Q2 .neq (b120.toNat:Int) (b122.toNat:Int))
  (none)
  (Wn N s_0 r_1 n (wrap .i64 (j118+1))))
  (some (wrap .i64 ((wrap .i64 ((((Utf8.encode r_1).data.toList).length:Int) - 1)) - (wrap .i64 ((((Utf8.encode r_1).data.toList).length:Int) - 1)))))
def Xl (N:Nat) (s_0:List UInt8) (r_1:Int):Nat->Option Int
 | 0=>none
 | n+1=>
  cond (Q2 .lss (wrap .i64 ((((Utf8.encode r_1).data.toList).length:Int) - 1)) (s_0.length:Int))
  ((idx s_0 (wrap .i64 ((((Utf8.encode r_1).data.toList).length:Int) - 1))).bind fun b73=>
  (idx ((Utf8.encode r_1).data.toList) (wrap .i64 ((((Utf8.encode r_1).data.toList).length:Int) - 1))).bind fun b75=>
  cond (Q2 .neq (b73.toNat:Int) (b75.toNat:Int))
  (cond (decide (0≤(wrap .i64 ((wrap .i64 ((((Utf8.encode r_1).data.toList).length:Int) - 1))+1)))) (cond (Nat.ble (wrap .i64 ((wrap .i64 ((((Utf8.encode r_1).data.toList).length:Int) - 1))+1)).toNat s_0.length&&Nat.ble s_0.length s_0.length) ((idx ((Utf8.encode r_1).data.toList) (wrap .i64 ((((Utf8.encode r_1).data.toList).length:Int) - 1))).bind fun b80=>
  (Jd N ((s_0.take s_0.length).drop ((wrap .i64 ((wrap .i64 ((((Utf8.encode r_1).data.toList).length:Int) - 1))+1)).toNat)) (b80.toNat:Int)).bind fun v82=>
  cond (Q2 .lss v82 0)
  (some (-1))
  (Ws N s_0 r_1 v82 N 1)) none) none)
  (Wn N s_0 r_1 N 1))
  (some (-1))
def Wo (N:Nat) (s_0:List UInt8) (r_1:Int) (s2:Bool):Option Int:=
 cond s2
 ((Jd N s_0 (wrap .u8 r_1)).bind fun v5=>
 some v5)
 (cond (Q2 .eql r_1 65533)
 (Y8 N s_0 N 0)
 ((Xz N r_1).bind fun v16=>
 cond (!v16)
 (some (-1))
 (Xl N s_0 r_1 N)))
def J8 (N:Nat) (s_0:List UInt8) (r_1:Int):Option Int:=
 cond (Q2 .leq 0 r_1)
 (Wo N s_0 r_1 (Q2 .lss r_1 128))
 (Wo N s_0 r_1 false)
theorem Q4g {N} {s_0} {r_1} {r} (h:J8 N s_0 r_1=some r):pU 138 [.str s_0,.int .i32 r_1] (.int .i64 r):=by
 refine Q5 Z6d ?_;unfold J8 at h;rw [cX] at h;refine jrH (r:=r) (σ:=Bool) (fun s2=>(iS s_0 :: .p (.int .i32 r_1)::a16 (a16 (a16 (a16 (a16 (a16 (a16 (a16 (a16 (a8 (a4 (a2 (.p (.bool s2)::a16 (a8 (a2 ([]))))))))))))))):List AV)) (fun s2=>Wo N s_0 r_1 s2) ?_ ?_
 ·apply iU h<;>intro h
  ·show Exists _;exact ⟨((Qn8 .lss r_1 128)),h,(fun i=>i),Y7⟩
  show Exists _;exact ⟨(false),h,(fun i=>i),Y7⟩
 rintro s2 h
 unfold Wo at h;rw [cX] at h;apply iU h<;>intro h
 ·refine cP h Q0o p2 fun v5 h=>?_;cases h;exact (.p _)
 apply iU h<;>intro h
 ·refine lpA (τ:=Nat) (fun _=>(a16 (a16 (a16 (a16 (a16 (a16 (a16 (a16 (a16 (a16 (a8 (a4 (a2 (.any :: .ptr 0 0::a8 (a2 (.any :: []))))))))))))))):List AV)) (fun pos13=>(.strIter s_0 pos13 :: []:List AObj)) (fun n1 pos13=>Y8 N s_0 n1 pos13) (0) h fun n1 pos13 h=>?_
  first | rw [Y8] at h | simp only [Y8] at h
  rw [cX] at h;refine iR h fun h=>?_;refine iL h fun h=>?_;show Exists _;exact ⟨(n1,(pos13+(Q7w s_0 pos13).2)),h,Lg _,(fun i=>i),Y7⟩
 refine cP h Q1u p1 fun v16 h=>?_;refine iL h fun h=>?_;refine lpH (τ:=Unit) (fun _=>(iS s_0::a4 (a2 (iS ((Utf8.encode r_1).data.toList) :: .p (.int .i64 (wrap .i64 ((((Utf8.encode r_1).data.toList).length:Int) - 1))) :: .p (.int .i64 (wrap .i64 ((((Utf8.encode r_1).data.toList).length:Int) - 1)))::a16 (a16 (a16 (a16 (a16 (a16 (a16 (a16 (a16 (a16 (a16 (.any :: []))))))))))))):List AV)) (fun n2 ⟨⟩=>Xl N s_0 r_1 n2) () h fun n2 ⟨⟩ h=>?_
 first | rw [Xl] at h | simp only [Xl] at h
 rw [cX] at h;refine iR h fun h=>?_;refine Qm ?_;refine xB h fun b73 h=>?_;refine xB h fun b75 h=>?_;apply iU h<;>intro h
 ·refine Qm ?_;refine kU h fun h=>?_;refine kU h fun h=>?_;refine xB h fun b80 h=>?_;refine cD h Q0o p2 fun v82 h=>?_;refine iL h fun h=>?_;refine lpH (τ:=Int) (fun j98=>(iS s_0::a4 (a2 (iS ((Utf8.encode r_1).data.toList) :: .p (.int .i64 (wrap .i64 ((((Utf8.encode r_1).data.toList).length:Int) - 1))) :: .p (.int .i64 (wrap .i64 ((wrap .i64 ((((Utf8.encode r_1).data.toList).length:Int) - 1))+(wrap .i64 (v82+1))))) :: .any :: .any::iI j98::a16 (a16 (a16 (a16 (a16 (a16 (a16 (a16 (a16 (a16 (a8 (a4 (a2 ([]))))))))))))))):List AV)) (fun n3 j98=>Ws N s_0 r_1 v82 n3 j98) (1) h fun n3 j98 h=>?_
  first | rw [Ws] at h | simp only [Ws] at h
  rw [cX] at h;refine iR h fun h=>?_;refine Qm ?_;refine xB h fun b100 h=>?_;refine xB h fun b102 h=>?_;apply iU h<;>intro h
  ·first | (cases h;done) | (simp [Qo0] at h;done)
  show Exists _;exact ⟨(n3,(wrap .i64 (j98+1))),h,Lg _,(fun i=>i),Y7⟩
 refine lpH (τ:=Int) (fun j118=>(iS s_0::a4 (a2 (iS ((Utf8.encode r_1).data.toList) :: .p (.int .i64 (wrap .i64 ((((Utf8.encode r_1).data.toList).length:Int) - 1))) :: .p (.int .i64 (wrap .i64 ((((Utf8.encode r_1).data.toList).length:Int) - 1))) :: .any :: .any::iI j118::a16 (a16 (a16 (a16 (a16 (a16 (a16 (a16 (a16 (a16 (a8 (a4 (a2 ([]))))))))))))))):List AV)) (fun n4 j118=>Wn N s_0 r_1 n4 j118) (1) h fun n4 j118 h=>?_
 first | rw [Wn] at h | simp only [Wn] at h
 rw [cX] at h;refine iR h fun h=>?_;refine Qm ?_;refine xB h fun b120 h=>?_;refine xB h fun b122 h=>?_;apply iU h<;>intro h
 ·first | (cases h;done) | (simp [Qo0] at h;done)
 show Exists _;exact ⟨(n4,(wrap .i64 (j118+1))),h,Lg _,(fun i=>i),Y7⟩
def U1 (_N:Nat) (bufLen:Int):Option Bool:=
 some (Q2 .gtr bufLen 8)
theorem Q1e {N} {bufLen} {r} (h:U1 N bufLen=some r):pU 139 [.int .i64 bufLen] (.bool r):=by
 refine Q5 Z64 ?_;unfold U1 at h;rw [cX] at h;cases h;exact (.p _)
def X7 (N:Nat) (s_0:List UInt8):Nat->Int->Option Int
 | 0,_=>none
 | n+1,i20=>
  cond (Q2 .lss i20 (s_0.length:Int))
  ((idx s_0 i20).bind fun b22=>
  cond (decide (0≤(b22.toNat:Int))&&decide ((b22.toNat:Int)<((256:Nat):Int))) ((idx ([false,false,false,false,false,false,false,false,false,false,false,false,false,false,false,false,false,false,false,false,false,false,false,false,false,false,false,false,false,false,false,false,false,false,false,true,false,false,false,false,false,false,false,true,false,false,false,false,false,false,false,false,false,false,false,false,false,false,false,false,false,false,false,false,false,false,false,false,false,false,false,false,false,false,false,false,false,false,false,false,false,false,false,false,false,false,false,false,false,false,false,false,false,false,false,false,false,false,false,false,false,false,false,false,false,false,false,false,false,false,false,false,false,false,false,false,false,false,false,false,false,false,false,false,false,false,false,false,false,false,false,false,false,false,false,false,false,false,false,false,false,false,false,false,false,false,false,false,false,false,false,false,false,false,false,false,false,false,false,false,false,false,false,false,false,false,false,false,false,false,false,false,false,false,false,false,false,false,false,false,false,false,false,false,false,false,false,false,false,false,false,false,false,false,false,false,false,false,false,false,false,false,false,false,false,false,false,false,false,false,false,false,false,false,false,false,false,false,false,false,false,false,false,false,false,false,false,false,false,false,false,false,false,false,false,false,false,false,false,false,false,false,false,false,false,false,false,false,false,false,false,false,false,false,false,false]:List Bool) (b22.toNat:Int)).bind fun y24=>
  cond y24
  (some i20)
  (X7 N s_0 n (wrap .i64 (i20+1)))) none)
  (some (-1))
def X5 (N:Nat) (s_0:List UInt8):Nat->Nat->Option Int
 | 0,_=>none
 | n+1,pos37=>
  cond (Nat.blt pos37 s_0.length)
  ((J8 N [43,35] (((Q7w s_0 pos37).1:Nat):Int)).bind fun v39=>
  cond (Q2 .geq v39 0)
  (some ((pos37:Nat):Int))
  (X5 N s_0 n (pos37+(Q7w s_0 pos37).2)))
  (some (-1))
def Ug (N:Nat) (s_0:List UInt8):Option Int:=
 cond (Jz .eql [43,35] [])
 (some (-1))
 ((U1 N (s_0.length:Int)).bind fun v2=>
 cond v2
 (X7 N s_0 N 0)
 (X5 N s_0 N 0))
theorem Q30 {N} {s_0} {r} (h:Ug N s_0=some r):pU 111 [.str s_0,.str [43,35]] (.int .i64 r):=by
 refine Q5 Z5g ?_;unfold Ug at h;rw [cY] at h;refine iL h fun h=>?_;refine dF ?_;refine cP h Q1e p1 fun v2 h=>?_;apply iU h<;>intro h
 ·refine Q6 Z2w ?_;refine Z2 4 ?_;refine dT ?_;refine dF ?_;refine dT ?_;refine dF ?_;refine dF ?_;refine lpH (τ:=Int) (fun i20=>(iS s_0::a4 (.any :: .ptr 1 0 :: .any::iI i20::a16 (a16 (a8 (a4 (a2 ([])))))):List AV)) (fun n0 i20=>X7 N s_0 n0 i20) (0) h fun n0 i20 h=>?_
  first | rw [X7] at h | simp only [X7] at h
  rw [cX] at h;refine iR h fun h=>?_;refine xB h fun b22 h=>?_;refine Q6 Z31 ?_;refine kU h fun h=>?_;obtain ⟨y24,hy25,h⟩:=Q2l h
  refine Q6t (c:=cB) (e:=1) (fun _=>rfl) hy25 (off:=0) (by decide) (by first | omega | (simp only [Q45,orI,Qr3,Q26,Q4k,Qc6];omega)) ?_
  refine iL h fun h=>?_;show Exists _;exact ⟨(n0,(wrap .i64 (i20+1))),h,Lg _,(fun i=>i),Y7⟩
 refine lpA (τ:=Nat) (fun _=>(.any :: .p (.str [43,35])::a16 (a16 (a8 (a2 (.any :: .ptr 0 0::a8 (.any :: []))))):List AV)) (fun pos37=>(.strIter s_0 pos37 :: []:List AObj)) (fun n1 pos37=>X5 N s_0 n1 pos37) (0) h fun n1 pos37 h=>?_
 first | rw [X5] at h | simp only [X5] at h
 rw [cX] at h;refine iR h fun h=>?_;refine cP h Q4g p2 fun v39 h=>?_;refine iL h fun h=>?_;show Exists _;exact ⟨(n1,(pos37+(Q7w s_0 pos37).2)),h,Lg _,(fun i=>i),Y7⟩
def Zs (N:Nat) (s_0:List UInt8):Option Bool:=
 (Ug N s_0).bind fun v1=>
 some (Q2 .geq v1 0)
theorem U6 {N} {s_0} {r} (h:Zs N s_0=some r):pU 79 [.str s_0,.str [43,35]] (.bool r):=by
 refine Q5 k79 ?_;unfold Zs at h;rw [cX] at h;refine cP h Q30 p2 fun v1 h=>?_;cases h;exact (.p _)
def V5 (N:Nat) (s_0:List UInt8):Option Bool:=
 (Q1d N s_0).bind fun v1=>
 cond v1
 ((Zs N s_0).bind fun v4=>
 some (!v4))
 (some false)
theorem J2 {N} {s_0} {r} (h:V5 N s_0=some r):pU 44 [.str s_0] (.bool r):=by
 refine Q5 k44 ?_;unfold V5 at h;refine cP h Q4v p1 fun v1 h=>?_;refine iR h fun h=>?_;refine cP h U6 p2 fun v4 h=>?_;cases h;exact (.p _)
def Vp (N:Nat) (R:Reg) (c n:List UInt8):Option ((Int×Bool×Int)×Reg):=(V5 N n).bind fun b=>if WR R then some (Qe8 b R c n) else none
theorem Q11 {N R c n r} (h:Vp N R c n=some r):Q0j Tryz.prog G1 19 R [.str c,.str n] (.tuple [.int .i64 r.1.1,.bool r.1.2.1,.int .i64 r.1.2.2]) r.2:=by
 obtain ⟨b,hb,h⟩:=Q2l h;split at h
 ·cases h;exact Qy3 (by assumption) (J2 hb)
 cases h
def Xm (N:Nat) (s_0:List UInt8) (c:Int):Nat->Int->Option Bool
 | 0,_=>none
 | n+1,i10=>
  cond (Q2 .lss i10 (s_0.length:Int))
  ((idx s_0 i10).bind fun b12=>
  cond (Q2 .eql (b12.toNat:Int) c)
  (some true)
  (Xm N s_0 c n (wrap .i64 (i10+1))))
  (some false)
def Yi (N:Nat) (s_0:List UInt8) (c:Int):Option Bool:=
 Xm N s_0 c N 0
theorem Wr {N} {s_0} {c} {r} (h:Yi N s_0 c=some r):pU 81 [.str s_0,.int .u8 c] (.bool r):=by
 refine Q5 k81 ?_;unfold Yi at h;refine lpH (τ:=Int) (fun i10=>(iS s_0 :: .p (.int .u8 c)::a2 (.any::iI i10::a8 (a2 (.any :: []))):List AV)) (fun n0 i10=>Xm N s_0 c n0 i10) (0) h fun n0 i10 h=>?_
 first | rw [Xm] at h | simp only [Xm] at h
 rw [cX] at h;refine iR h fun h=>?_;refine xB h fun b12 h=>?_;refine iL h fun h=>?_;show Exists _;exact ⟨(n0,(wrap .i64 (i10+1))),h,Lg _,(fun i=>i),Y7⟩
def Zz (_N:Nat) (s_0:List UInt8) (at_1:Int):Option (Int×Bool):=
 cond (Q2 .geq at_1 (s_0.length:Int))
 (some (0,false))
 ((idx s_0 at_1).bind fun b2=>
 cond (Q2 .lss (b2.toNat:Int) 128)
 (some (0,false))
 ((idx s_0 at_1).bind fun b5=>
 cond (Q2 .gtr (b5.toNat:Int) 191)
 (some (0,false))
 ((idx s_0 at_1).bind fun b8=>
 some ((wrap .i64 ((wrap .i64 (b8.toNat:Int)) - 128)),true))))
theorem Yv {N} {s_0} {at_1} {r} (h:Zz N s_0 at_1=some r):pU 152 [.str s_0,.int .i64 at_1] (.tuple [.int .i64 r.1,.bool r.2]):=by
 refine Q5 Z5k ?_;unfold Zz at h;rw [cX] at h;refine iL2 h fun h=>?_;refine xB h fun b2 h=>?_;refine iL2 h fun h=>?_;refine xB h fun b5 h=>?_;refine iL2 h fun h=>?_;refine xB h fun b8 h=>?_;obtain rfl:=Qb h;exact u2
def Z6 (N:Nat) (s_0:List UInt8) (at_1:Int):Nat->Int->Int->Option (Int×Int)
 | 0,_,_=>none
 | n+1,n15,i17=>
  cond (Q2 .lss i17 2)
  ((Zz N s_0 (wrap .i64 (at_1+i17))).bind fun v19=>
  cond (!v19.2)
  (some (0,0))
  (Z6 N s_0 at_1 n (wrap .i64 ((wrap .i64 (64 * n15))+v19.1)) (wrap .i64 (i17+1))))
  (cond (Q2 .lss n15 128)
  (some (0,0))
  (cond (Q2 .gtr n15 1114111)
  (some (0,0))
  (cond (Q2 .geq n15 55296)
  (cond (Q2 .leq n15 57343)
  (some (0,0))
  (some (n15,2)))
  (some (n15,2)))))
def Z5 (N:Nat) (s_0:List UInt8) (at_1:Int):Nat->Int->Int->Option (Int×Int)
 | 0,_,_=>none
 | n+1,n38,i39=>
  cond (Q2 .lss i39 3)
  ((Zz N s_0 (wrap .i64 (at_1+i39))).bind fun v41=>
  cond (!v41.2)
  (some (0,0))
  (Z5 N s_0 at_1 n (wrap .i64 ((wrap .i64 (64 * n38))+v41.1)) (wrap .i64 (i39+1))))
  (cond (Q2 .lss n38 2048)
  (some (0,0))
  (cond (Q2 .gtr n38 1114111)
  (some (0,0))
  (cond (Q2 .geq n38 55296)
  (cond (Q2 .leq n38 57343)
  (some (0,0))
  (some (n38,3)))
  (some (n38,3)))))
def Z8 (N:Nat) (s_0:List UInt8) (at_1:Int):Nat->Int->Int->Option (Int×Int)
 | 0,_,_=>none
 | n+1,n59,i60=>
  cond (Q2 .lss i60 4)
  ((Zz N s_0 (wrap .i64 (at_1+i60))).bind fun v62=>
  cond (!v62.2)
  (some (0,0))
  (Z8 N s_0 at_1 n (wrap .i64 ((wrap .i64 (64 * n59))+v62.1)) (wrap .i64 (i60+1))))
  (cond (Q2 .lss n59 65536)
  (some (0,0))
  (cond (Q2 .gtr n59 1114111)
  (some (0,0))
  (cond (Q2 .geq n59 55296)
  (cond (Q2 .leq n59 57343)
  (some (0,0))
  (some (n59,4)))
  (some (n59,4)))))
def Xs (N:Nat) (s_0:List UInt8) (at_1:Int):Nat->Int->Int->Option (Int×Int)
 | 0,_,_=>none
 | n+1,n80,i81=>
  cond (Q2 .lss i81 4)
  ((Zz N s_0 (wrap .i64 (at_1+i81))).bind fun v83=>
  cond (!v83.2)
  (some (0,0))
  (Xs N s_0 at_1 n (wrap .i64 ((wrap .i64 (64 * n80))+v83.1)) (wrap .i64 (i81+1))))
  (cond (Q2 .lss n80 65536)
  (some (0,0))
  (cond (Q2 .gtr n80 1114111)
  (some (0,0))
  (cond (Q2 .geq n80 55296)
  (cond (Q2 .leq n80 57343)
  (some (0,0))
  (some (n80,4)))
  (some (n80,4)))))
def Xt (N:Nat) (s_0:List UInt8) (at_1:Int):Nat->Int->Int->Option (Int×Int)
 | 0,_,_=>none
 | n+1,n101,i102=>
  cond (Q2 .lss i102 3)
  ((Zz N s_0 (wrap .i64 (at_1+i102))).bind fun v104=>
  cond (!v104.2)
  (some (0,0))
  (Xt N s_0 at_1 n (wrap .i64 ((wrap .i64 (64 * n101))+v104.1)) (wrap .i64 (i102+1))))
  (cond (Q2 .lss n101 2048)
  (some (0,0))
  (cond (Q2 .gtr n101 1114111)
  (some (0,0))
  (cond (Q2 .geq n101 55296)
  (cond (Q2 .leq n101 57343)
  (some (0,0))
  (some (n101,3)))
  (some (n101,3)))))
def Xy (N:Nat) (s_0:List UInt8) (at_1:Int):Nat->Int->Int->Option (Int×Int)
 | 0,_,_=>none
 | n+1,n122,i123=>
  cond (Q2 .lss i123 4)
  ((Zz N s_0 (wrap .i64 (at_1+i123))).bind fun v125=>
  cond (!v125.2)
  (some (0,0))
  (Xy N s_0 at_1 n (wrap .i64 ((wrap .i64 (64 * n122))+v125.1)) (wrap .i64 (i123+1))))
  (cond (Q2 .lss n122 65536)
  (some (0,0))
  (cond (Q2 .gtr n122 1114111)
  (some (0,0))
  (cond (Q2 .geq n122 55296)
  (cond (Q2 .leq n122 57343)
  (some (0,0))
  (some (n122,4)))
  (some (n122,4)))))
def Xv (N:Nat) (s_0:List UInt8) (at_1:Int):Nat->Int->Int->Option (Int×Int)
 | 0,_,_=>none
 | n+1,n143,i144=>
  cond (Q2 .lss i144 4)
  ((Zz N s_0 (wrap .i64 (at_1+i144))).bind fun v146=>
  cond (!v146.2)
  (some (0,0))
  (Xv N s_0 at_1 n (wrap .i64 ((wrap .i64 (64 * n143))+v146.1)) (wrap .i64 (i144+1))))
  (cond (Q2 .lss n143 65536)
  (some (0,0))
  (cond (Q2 .gtr n143 1114111)
  (some (0,0))
  (cond (Q2 .geq n143 55296)
  (cond (Q2 .leq n143 57343)
  (some (0,0))
  (some (n143,4)))
  (some (n143,4)))))
def Xw (N:Nat) (s_0:List UInt8) (at_1:Int):Option (Int×Int):=
 (idx s_0 at_1).bind fun b1=>
 cond (Q2 .lss (wrap .i64 (b1.toNat:Int)) 128)
 (some ((wrap .i64 (b1.toNat:Int)),1))
 (cond (Q2 .geq (wrap .i64 (b1.toNat:Int)) 192)
 (cond (Q2 .lss (wrap .i64 (b1.toNat:Int)) 224)
 (Z6 N s_0 at_1 N (wrap .i64 ((wrap .i64 (b1.toNat:Int)) - 192)) 1)
 (cond (Q2 .geq (wrap .i64 (b1.toNat:Int)) 224)
 (cond (Q2 .lss (wrap .i64 (b1.toNat:Int)) 240)
 (Z5 N s_0 at_1 N (wrap .i64 ((wrap .i64 (b1.toNat:Int)) - 224)) 1)
 (cond (Q2 .geq (wrap .i64 (b1.toNat:Int)) 240)
 (cond (Q2 .lss (wrap .i64 (b1.toNat:Int)) 248)
 (Z8 N s_0 at_1 N (wrap .i64 ((wrap .i64 (b1.toNat:Int)) - 240)) 1)
 (some (0,0)))
 (some (0,0))))
 (cond (Q2 .geq (wrap .i64 (b1.toNat:Int)) 240)
 (cond (Q2 .lss (wrap .i64 (b1.toNat:Int)) 248)
 (Xs N s_0 at_1 N (wrap .i64 ((wrap .i64 (b1.toNat:Int)) - 240)) 1)
 (some (0,0)))
 (some (0,0)))))
 (cond (Q2 .geq (wrap .i64 (b1.toNat:Int)) 224)
 (cond (Q2 .lss (wrap .i64 (b1.toNat:Int)) 240)
 (Xt N s_0 at_1 N (wrap .i64 ((wrap .i64 (b1.toNat:Int)) - 224)) 1)
 (cond (Q2 .geq (wrap .i64 (b1.toNat:Int)) 240)
 (cond (Q2 .lss (wrap .i64 (b1.toNat:Int)) 248)
 (Xy N s_0 at_1 N (wrap .i64 ((wrap .i64 (b1.toNat:Int)) - 240)) 1)
 (some (0,0)))
 (some (0,0))))
 (cond (Q2 .geq (wrap .i64 (b1.toNat:Int)) 240)
 (cond (Q2 .lss (wrap .i64 (b1.toNat:Int)) 248)
 (Xv N s_0 at_1 N (wrap .i64 ((wrap .i64 (b1.toNat:Int)) - 240)) 1)
 (some (0,0)))
 (some (0,0)))))
theorem Q3c {N} {s_0} {at_1} {r} (h:Xw N s_0 at_1=some r):pU 136 [.str s_0,.int .i64 at_1] (.tuple [.int .i64 r.1,.int .i64 r.2]):=by
 refine Q5 Z4n ?_;unfold Xw at h;rw [cX] at h;refine xB h fun b1 h=>?_;refine iL2 h fun h=>?_;apply iU h<;>intro h
 ·apply iU h<;>intro h
  ·refine lpH (τ:=Int×Int) (fun ⟨n15,i17⟩=>(iS s_0::iI at_1::a4 (iI n15::iI 2::iI 128::iI i17::a16 (a16 (a16 (a16 (a8 (.any :: [])))))):List AV)) (fun n0 ⟨n15,i17⟩=>Z6 N s_0 at_1 n0 n15 i17) ((wrap .i64 ((wrap .i64 (b1.toNat:Int)) - 192)),1) h fun n0 ⟨n15,i17⟩ h=>?_
   first | rw [Z6] at h | simp only [Z6] at h
   rw [cX] at h;apply iU h<;>intro h
   ·refine cP h Yv p2 fun v19 h=>?_;refine iL2 h fun h=>?_;show Exists _;exact ⟨(n0,(wrap .i64 ((wrap .i64 (64 * n15))+v19.1)),(wrap .i64 (i17+1))),h,Lg _,(fun i=>i),Y7⟩
   refine iL2 h fun h=>?_;refine iL2 h fun h=>?_;refine iR2 h fun h=>?_;exact iB2 h
  apply iU h<;>intro h
  ·apply iU h<;>intro h
   ·refine lpH (τ:=Int×Int) (fun ⟨n38,i39⟩=>(iS s_0::iI at_1::a4 (iI n38::iI 3::iI 2048::iI i39::a16 (a16 (a16 (a16 (a8 (.any :: [])))))):List AV)) (fun n1 ⟨n38,i39⟩=>Z5 N s_0 at_1 n1 n38 i39) ((wrap .i64 ((wrap .i64 (b1.toNat:Int)) - 224)),1) h fun n1 ⟨n38,i39⟩ h=>?_
    first | rw [Z5] at h | simp only [Z5] at h
    rw [cX] at h;apply iU h<;>intro h
    ·refine cP h Yv p2 fun v41 h=>?_;refine iL2 h fun h=>?_;show Exists _;exact ⟨(n1,(wrap .i64 ((wrap .i64 (64 * n38))+v41.1)),(wrap .i64 (i39+1))),h,Lg _,(fun i=>i),Y7⟩
    refine iL2 h fun h=>?_;refine iL2 h fun h=>?_;refine iR2 h fun h=>?_;exact iB2 h
   refine iR2 h fun h=>?_;refine iR2 h fun h=>?_;refine lpH (τ:=Int×Int) (fun ⟨n59,i60⟩=>(iS s_0::iI at_1::a4 (iI n59::iI 4::iI 65536::iI i60::a16 (a16 (a16 (a16 (a8 (.any :: [])))))):List AV)) (fun n2 ⟨n59,i60⟩=>Z8 N s_0 at_1 n2 n59 i60) ((wrap .i64 ((wrap .i64 (b1.toNat:Int)) - 240)),1) h fun n2 ⟨n59,i60⟩ h=>?_
   first | rw [Z8] at h | simp only [Z8] at h
   rw [cX] at h;apply iU h<;>intro h
   ·refine cP h Yv p2 fun v62 h=>?_;refine iL2 h fun h=>?_;show Exists _;exact ⟨(n2,(wrap .i64 ((wrap .i64 (64 * n59))+v62.1)),(wrap .i64 (i60+1))),h,Lg _,(fun i=>i),Y7⟩
   refine iL2 h fun h=>?_;refine iL2 h fun h=>?_;refine iR2 h fun h=>?_;exact iB2 h
  refine iR2 h fun h=>?_;refine iR2 h fun h=>?_;refine lpH (τ:=Int×Int) (fun ⟨n80,i81⟩=>(iS s_0::iI at_1::a4 (iI n80::iI 4::iI 65536::iI i81::a16 (a16 (a16 (a16 (a8 (.any :: [])))))):List AV)) (fun n3 ⟨n80,i81⟩=>Xs N s_0 at_1 n3 n80 i81) ((wrap .i64 ((wrap .i64 (b1.toNat:Int)) - 240)),1) h fun n3 ⟨n80,i81⟩ h=>?_
  first | rw [Xs] at h | simp only [Xs] at h
  rw [cX] at h;apply iU h<;>intro h
  ·refine cP h Yv p2 fun v83 h=>?_;refine iL2 h fun h=>?_;show Exists _;exact ⟨(n3,(wrap .i64 ((wrap .i64 (64 * n80))+v83.1)),(wrap .i64 (i81+1))),h,Lg _,(fun i=>i),Y7⟩
  refine iL2 h fun h=>?_;refine iL2 h fun h=>?_;refine iR2 h fun h=>?_;exact iB2 h
 apply iU h<;>intro h
 ·apply iU h<;>intro h
  ·refine lpH (τ:=Int×Int) (fun ⟨n101,i102⟩=>(iS s_0::iI at_1::a4 (iI n101::iI 3::iI 2048::iI i102::a16 (a16 (a16 (a16 (a8 (.any :: [])))))):List AV)) (fun n4 ⟨n101,i102⟩=>Xt N s_0 at_1 n4 n101 i102) ((wrap .i64 ((wrap .i64 (b1.toNat:Int)) - 224)),1) h fun n4 ⟨n101,i102⟩ h=>?_
   first | rw [Xt] at h | simp only [Xt] at h
   rw [cX] at h;apply iU h<;>intro h
   ·refine cP h Yv p2 fun v104 h=>?_;refine iL2 h fun h=>?_;show Exists _;exact ⟨(n4,(wrap .i64 ((wrap .i64 (64 * n101))+v104.1)),(wrap .i64 (i102+1))),h,Lg _,(fun i=>i),Y7⟩
   refine iL2 h fun h=>?_;refine iL2 h fun h=>?_;refine iR2 h fun h=>?_;exact iB2 h
  refine iR2 h fun h=>?_;refine iR2 h fun h=>?_;refine lpH (τ:=Int×Int) (fun ⟨n122,i123⟩=>(iS s_0::iI at_1::a4 (iI n122::iI 4::iI 65536::iI i123::a16 (a16 (a16 (a16 (a8 (.any :: [])))))):List AV)) (fun n5 ⟨n122,i123⟩=>Xy N s_0 at_1 n5 n122 i123) ((wrap .i64 ((wrap .i64 (b1.toNat:Int)) - 240)),1) h fun n5 ⟨n122,i123⟩ h=>?_
  first | rw [Xy] at h | simp only [Xy] at h
  rw [cX] at h;apply iU h<;>intro h
  ·refine cP h Yv p2 fun v125 h=>?_;refine iL2 h fun h=>?_;show Exists _;exact ⟨(n5,(wrap .i64 ((wrap .i64 (64 * n122))+v125.1)),(wrap .i64 (i123+1))),h,Lg _,(fun i=>i),Y7⟩
  refine iL2 h fun h=>?_;refine iL2 h fun h=>?_;refine iR2 h fun h=>?_;exact iB2 h
 refine iR2 h fun h=>?_;refine iR2 h fun h=>?_;refine lpH (τ:=Int×Int) (fun ⟨n143,i144⟩=>(iS s_0::iI at_1::a4 (iI n143::iI 4::iI 65536::iI i144::a16 (a16 (a16 (a16 (a8 (.any :: [])))))):List AV)) (fun n6 ⟨n143,i144⟩=>Xv N s_0 at_1 n6 n143 i144) ((wrap .i64 ((wrap .i64 (b1.toNat:Int)) - 240)),1) h fun n6 ⟨n143,i144⟩ h=>?_
 first | rw [Xv] at h | simp only [Xv] at h
 rw [cX] at h;apply iU h<;>intro h
 ·refine cP h Yv p2 fun v146 h=>?_;refine iL2 h fun h=>?_;show Exists _;exact ⟨(n6,(wrap .i64 ((wrap .i64 (64 * n143))+v146.1)),(wrap .i64 (i144+1))),h,Lg _,(fun i=>i),Y7⟩
 refine iL2 h fun h=>?_;refine iL2 h fun h=>?_;refine iR2 h fun h=>?_;exact iB2 h
def Yz (N:Nat) (s_0:List UInt8):Nat->Int->Option Int
 | 0,_=>none
 | n+1,at12=>
  cond (Q2 .lss at12 (s_0.length:Int))
  ((Xw N s_0 at12).bind fun v14=>
  cond (Q2 .eql v14.2 0)
  (some at12)
  (cond (Q2 .eql v14.1 0)
  (some at12)
  (Yz N s_0 n (wrap .i64 (at12+v14.2)))))
  (some (-1))
def Jf (N:Nat) (s_0:List UInt8):Option Int:=
 Yz N s_0 N 0
theorem Q4f {N} {s_0} {r} (h:Jf N s_0=some r):pU 103 [.str s_0] (.int .i64 r):=by
 refine Q5 Z3z ?_;unfold Jf at h;refine lpH (τ:=Int) (fun at12=>(iS s_0 :: .any :: .any::iI at12::a16 (a4 (a2 ([]))):List AV)) (fun n0 at12=>Yz N s_0 n0 at12) (0) h fun n0 at12 h=>?_
 first | rw [Yz] at h | simp only [Yz] at h
 rw [cX] at h;refine iR h fun h=>?_;refine cP h Q3c p2 fun v14 h=>?_;refine iL h fun h=>?_;refine iL h fun h=>?_;show Exists _;exact ⟨(n0,(wrap .i64 (at12+v14.2))),h,Lg _,(fun i=>i),Y7⟩
def Xc (N:Nat) (s_0:List UInt8):Option Bool:=
 cond (Q2 .leq (s_0.length:Int) 65535)
 ((Jf N s_0).bind fun v2=>
 some (Q2 .lss v2 0))
 (some false)
theorem V9 {N} {s_0} {r} (h:Xc N s_0=some r):pU 74 [.str s_0] (.bool r):=by
 refine Q5 k74 ?_;unfold Xc at h;rw [cX] at h;refine iR h fun h=>?_;refine cP h Q4f p1 fun v2 h=>?_;cases h;exact (.p _)
def Yc (N:Nat) (s_0:List UInt8):Option Bool:=
 cond (Jz .neq s_0 [])
 ((Xc N s_0).bind fun v2=>
 cond v2
 ((Yi N s_0 43).bind fun v5=>
 cond (!v5)
 ((Yi N s_0 35).bind fun v8=>
 some (!v8))
 (some false))
 (some false))
 (some false)
theorem Xf {N} {s_0} {r} (h:Yc N s_0=some r):pU 48 [.str s_0] (.bool r):=by
 refine Q5 k48 ?_;unfold Yc at h;rw [cY] at h;refine iR h fun h=>?_;refine cP h V9 p1 fun v2 h=>?_;refine iR h fun h=>?_;refine cP h Wr p2 fun v5 h=>?_;refine iR h fun h=>?_;refine cP h Wr p2 fun v8 h=>?_;cases h;exact (.p _)
def Z9 (N:Nat) (r_0:Q3) (client:List UInt8):Nat->Int->Option ((List Qh)×Q3)
 | 0,_=>none
 | n+1,i18=>
  cond (Q2 .lss i18 ((Qi Q1.cells r_0.L).length:Int))
  ((idx r_0.L i18).bind fun y20=>
  cond (Jz .eql y20.client client)
  ((idx r_0.L i18).bind fun y23=>
  cond (Nat.beq (Qi Qh.cells y23.l).length 0)
  (some ([],r_0))
  (cond (Nat.ble ((0+(Qi Qh.cells y23.l).length+4096) * 32) 17592186044416) (some ((([]:List Qh)++y23.l),r_0)) none))
  (Z9 N r_0 client n (wrap .i64 (i18+1))))
  (some ([],r_0))
def Y1 (N:Nat) (r_0:Q3) (client:List UInt8):Option ((List Qh)×Q3):=
 Z9 N r_0 client N 0
theorem Ua {N} {r_0} {client} {r} (h:Y1 N r_0 client=some r):Qn6 Tryz.prog G1 49 (Q3.cells r_0) [.str client] (.slice 3 (Qi Qh.cells r.1)) (Q3.cells r.2):=by
 refine Q37 k49 ?_;unfold Y1 at h;refine lpH (τ:=Int) (fun i18=>(.ptr 0 0::iS client::a2 (.any::iI i18::a16 (a8 (a4 (.any :: [])))):List AV)) (fun n0 i18=>Z9 N r_0 client n0 i18) (0) h fun n0 i18 h=>?_
 first | rw [Z9] at h | simp only [Z9] at h
 rw [cX,cY] at h;apply iU h<;>intro h
 ·refine xR h fun y20 h=>?_;apply iU h<;>intro h
  ·refine xR h fun y23 h=>?_;refine Qoq (c:=Qh.cells) (vs:=y23.l) rfl ?_;apply iU h<;>intro h
   ·obtain rfl:=Qb h;exact ⟨_,_,rfl,p1,(frz_own (c:=Qh.cells) (l:=([]:List Qh)) (fun _=>rfl) rfl (by decide) sd)⟩
   obtain ⟨hk25,h⟩:=Q4i h;refine Q0n (Ve (c:=Qh.cells) (e:=3) (l:=([]:List Qh)) (fun _=>rfl) sd hk25) ?_;obtain rfl:=Qb h;exact ⟨_,_,rfl,p1,(frz_own (c:=Qh.cells) (l:=((([]:List Qh)++y23.l):List Qh)) (fun _=>rfl) rfl (by decide) sd)⟩
  show Exists _;exact ⟨(n0,(wrap .i64 (i18+1))),h,Lg _,(fun i=>i),Y7⟩
 obtain rfl:=Qb h;exact ⟨_,_,rfl,p1,(.nil _)⟩
def Q7 (N:Nat) (r_0:Q3) (client:List UInt8) (l:List Qh):Nat->Bool->Int->(List Q1)->Option ((Unit)×Q3)
 | 0,_,_,_=>none
 | n+1,in24,i25,l26=>
  cond (Q2 .lss i25 ((Qi Q1.cells r_0.L).length:Int))
  ((idx r_0.L i25).bind fun y28=>
  cond (!in24)
  (cond (Jz .lss client y28.client)
  (cond (Nat.ble ((l26.length+1+4096) * 40) 17592186044416) (cond (Jz .neq y28.client client)
  (cond (Nat.ble (((l26.length+1)+1+4096) * 40) 17592186044416) (Q7 N r_0 client l n true (wrap .i64 (i25+1)) ((l26 ++ [(⟨client,l⟩:Q1)]) ++ [y28])) none)
  (Q7 N r_0 client l n true (wrap .i64 (i25+1)) (l26 ++ [(⟨client,l⟩:Q1)]))) none)
  (cond (Jz .neq y28.client client)
  (cond (Nat.ble ((l26.length+1+4096) * 40) 17592186044416) (Q7 N r_0 client l n in24 (wrap .i64 (i25+1)) (l26 ++ [y28])) none)
  (Q7 N r_0 client l n in24 (wrap .i64 (i25+1)) l26)))
  (cond (Jz .neq y28.client client)
  (cond (Nat.ble ((l26.length+1+4096) * 40) 17592186044416) (Q7 N r_0 client l n in24 (wrap .i64 (i25+1)) (l26 ++ [y28])) none)
  (Q7 N r_0 client l n in24 (wrap .i64 (i25+1)) l26)))
  (cond (!in24)
  (cond (Nat.ble ((l26.length+1+4096) * 40) 17592186044416) (some ((),(⟨(l26 ++ [(⟨client,l⟩:Q1)])⟩:Q3))) none)
  (some ((),(⟨l26⟩:Q3))))
def Yk (N:Nat) (r_0:Q3) (client:List UInt8) (l:List Qh):Option ((Unit)×Q3):=
 Q7 N r_0 client l N (Q2 .eql ((Qi Qh.cells l).length:Int) 0) 0 []
theorem J5 {N} {r_0} {client} {l} {r} (h:Yk N r_0 client l=some r):Qn6 Tryz.prog G1 50 (Q3.cells r_0) [.str client,.slice 3 (Qi Qh.cells l)] (.tuple []) (Q3.cells r.2):=by
 refine Q37 k50 ?_;unfold Yk at h;rw [cX] at h;refine lpA (τ:=Bool×Int×(List Q1)) (fun ⟨in24,i25,l26⟩=>(.ptr 0 0::iS client :: .p (.slice 3 (Qi Qh.cells l))::a2 (.any :: .slice 2 1 0 l26.length :: .p (.bool in24)::iI i25::a16 (a16 (a16 (a4 (a2 ([])))))):List AV)) (fun ⟨_,_,l26⟩=>(.cells (.p (.slice 2 (Qi Q1.cells r_0.L)) :: []) :: .cells (Yl Q1.cells l26) :: []:List AObj)) (fun n0 ⟨in24,i25,l26⟩=>Q7 N r_0 client l n0 in24 i25 l26) ((Qn8 .eql ((Qi Qh.cells l).length:Int) 0),0,[]) h fun n0 ⟨in24,i25,l26⟩ h=>?_
 first | rw [Q7] at h | simp only [Q7] at h
 rw [cX,cY] at h;apply iU h<;>intro h
 ·refine xR h fun y28 h=>?_;apply iU h<;>intro h
  ·apply iU h<;>intro h
   ·obtain ⟨hk32,h⟩:=Q4i h;refine Q0n (Ve (c:=Q1.cells) (e:=2) (fun _=>rfl) sd hk32) ?_;refine Jr (c:=Q1.cells) [(⟨client,l⟩:Q1)] rfl ?_;apply iU h<;>intro h
    ·obtain ⟨hk34,h⟩:=Q4i h;refine Q0n (Ve (c:=Q1.cells) (e:=2) (fun _=>rfl) sd hk34) ?_;refine Jr (c:=Q1.cells) [y28] rfl ?_;show Exists _;exact ⟨(n0,true,(wrap .i64 (i25+1)),((l26 ++ [(⟨client,l⟩:Q1)]) ++ [y28])),h,Lg _,(rho [0,6]),Y7⟩
    show Exists _;exact ⟨(n0,true,(wrap .i64 (i25+1)),(l26 ++ [(⟨client,l⟩:Q1)])),h,Lg _,(rho [0,4]),Y7⟩
   apply iU h<;>intro h
   ·obtain ⟨hk36,h⟩:=Q4i h;refine Q0n (Ve (c:=Q1.cells) (e:=2) (fun _=>rfl) sd hk36) ?_;refine Jr (c:=Q1.cells) [y28] rfl ?_;show Exists _;exact ⟨(n0,in24,(wrap .i64 (i25+1)),(l26 ++ [y28])),h,Lg _,(rho [0,4]),Y7⟩
   show Exists _;exact ⟨(n0,in24,(wrap .i64 (i25+1)),l26),h,Lg _,(fun i=>i),Y7⟩
  apply iU h<;>intro h
  ·obtain ⟨hk38,h⟩:=Q4i h;refine Q0n (Ve (c:=Q1.cells) (e:=2) (fun _=>rfl) sd hk38) ?_;refine Jr (c:=Q1.cells) [y28] rfl ?_;show Exists _;exact ⟨(n0,in24,(wrap .i64 (i25+1)),(l26 ++ [y28])),h,Lg _,(rho [0,4]),Y7⟩
  show Exists _;exact ⟨(n0,in24,(wrap .i64 (i25+1)),l26),h,Lg _,(fun i=>i),Y7⟩
 apply iU h<;>intro h
 ·obtain ⟨hk40,h⟩:=Q4i h;refine Q0n (Ve (c:=Q1.cells) (e:=2) (fun _=>rfl) sd hk40) ?_;refine Jr (c:=Q1.cells) [(⟨client,l⟩:Q1)] rfl ?_
  obtain rfl:=Qb h;exact ⟨_,_,rfl,(.cons (frz_own (c:=Q1.cells) (l:=((l26 ++ [(⟨client,l⟩:Q1)]):List Q1)) (fun _=>rfl) rfl (by decide) sd) .nil),(by first | exact .p _ | exact .tuple _ _ rfl (fun i v x h=>by simp at h))⟩
 obtain rfl:=Qb h;exact ⟨_,_,rfl,(.cons (frz_own (c:=Q1.cells) (l:=(l26:List Q1)) (fun _=>rfl) rfl (by decide) sd) .nil),(by first | exact .p _ | exact .tuple _ _ rfl (fun i v x h=>by simp at h))⟩
def Zj (N:Nat) (l:List Qh) (t:Qh):Nat->Bool->Int->(List Qh)->Option (List Qh)
 | 0,_,_,_=>none
 | n+1,in27,i28,l29=>
  cond (Q2 .lss i28 ((Qi Qh.cells l).length:Int))
  (cond (!in27)
  ((idx l i28).bind fun y32=>
  cond (Q2 .lss t.ID y32.ID)
  (cond (Nat.ble ((l29.length+1+4096) * 32) 17592186044416) ((idx l i28).bind fun y36=>
  cond (Nat.ble (((l29.length+1)+1+4096) * 32) 17592186044416) (Zj N l t n true (wrap .i64 (i28+1)) ((l29 ++ [t]) ++ [y36])) none) none)
  ((idx l i28).bind fun y39=>
  cond (Nat.ble ((l29.length+1+4096) * 32) 17592186044416) (Zj N l t n in27 (wrap .i64 (i28+1)) (l29 ++ [y39])) none))
  ((idx l i28).bind fun y42=>
  cond (Nat.ble ((l29.length+1+4096) * 32) 17592186044416) (Zj N l t n in27 (wrap .i64 (i28+1)) (l29 ++ [y42])) none))
  (cond (!in27)
  (cond (Nat.ble ((l29.length+1+4096) * 32) 17592186044416) (some (l29 ++ [t])) none)
  (some l29))
def Wu (N:Nat) (l:List Qh) (t:Qh):Option (List Qh):=
 Zj N l t N false 0 []
theorem Q0l {N} {l} {t} {r} (h:Wu N l t=some r):pU 51 [.slice 3 (Qi Qh.cells l),.agg (Qh.cells t)] (.slice 3 (Qi Qh.cells r)):=by
 refine Q5 k51 ?_;unfold Wu at h;refine lpA (τ:=Bool×Int×(List Qh)) (fun ⟨in27,i28,l29⟩=>(.p (.slice 3 (Qi Qh.cells l)) :: .any :: .any :: .ptr 0 0 :: .any :: .slice 3 1 0 l29.length :: .p (.bool in27)::iI i28::a16 (a16 (a4 ([]))):List AV)) (fun ⟨_,_,l29⟩=>(.cells (iI t.ID::iS t.Name :: .p (.bool t.Fixed) :: []) :: .cells (Yl Qh.cells l29) :: []:List AObj)) (fun n0 ⟨in27,i28,l29⟩=>Zj N l t n0 in27 i28 l29) (false,0,[]) h fun n0 ⟨in27,i28,l29⟩ h=>?_
 first | rw [Zj] at h | simp only [Zj] at h
 rw [cX] at h;apply iU h<;>intro h
 ·refine Qm ?_;apply iU h<;>intro h
  ·refine xR h fun y32 h=>?_;apply iU h<;>intro h
   ·obtain ⟨hk35,h⟩:=Q4i h;refine Q0n (Ve (c:=Qh.cells) (e:=3) (fun _=>rfl) sd hk35) ?_;refine Jr (c:=Qh.cells) [t] rfl ?_;refine xR h fun y36 h=>?_;obtain ⟨hk38,h⟩:=Q4i h;refine Q0n (Ve (c:=Qh.cells) (e:=3) (fun _=>rfl) sd hk38) ?_;refine Jr (c:=Qh.cells) [y36] rfl ?_;show Exists _;exact ⟨(n0,true,(wrap .i64 (i28+1)),((l29 ++ [t]) ++ [y36])),h,Lg _,(rho [0,5]),Y7⟩
   refine xR h fun y39 h=>?_;obtain ⟨hk41,h⟩:=Q4i h;refine Q0n (Ve (c:=Qh.cells) (e:=3) (fun _=>rfl) sd hk41) ?_;refine Jr (c:=Qh.cells) [y39] rfl ?_;show Exists _;exact ⟨(n0,in27,(wrap .i64 (i28+1)),(l29 ++ [y39])),h,Lg _,(rho [0,3]),Y7⟩
  refine xR h fun y42 h=>?_;obtain ⟨hk44,h⟩:=Q4i h;refine Q0n (Ve (c:=Qh.cells) (e:=3) (fun _=>rfl) sd hk44) ?_;refine Jr (c:=Qh.cells) [y42] rfl ?_;show Exists _;exact ⟨(n0,in27,(wrap .i64 (i28+1)),(l29 ++ [y42])),h,Lg _,(rho [0,3]),Y7⟩
 apply iU h<;>intro h
 ·obtain ⟨hk46,h⟩:=Q4i h;refine Q0n (Ve (c:=Qh.cells) (e:=3) (fun _=>rfl) sd hk46) ?_;refine Jr (c:=Qh.cells) [t] rfl ?_;obtain rfl:=Qb h;exact (frz_own (c:=Qh.cells) (l:=((l29 ++ [t]):List Qh)) (fun _=>rfl) rfl trivial sd)
 obtain rfl:=Qb h;exact (frz_own (c:=Qh.cells) (l:=(l29:List Qh)) (fun _=>rfl) rfl trivial sd)
def Qf (N:Nat) (client:List UInt8) (name:List UInt8) (v4:(List Qh)×Q3):Nat->Int->Int->Option ((Int×Bool×Int)×Q3)
 | 0,_,_=>none
 | n+1,free27,i28=>
  cond (Q2 .lss i28 ((Qi Qh.cells v4.1).length:Int))
  ((idx v4.1 i28).bind fun y30=>
  cond (Jz .eql y30.Name name)
  ((idx v4.1 i28).bind fun y33=>
  some ((y33.ID,false,0),v4.2))
  ((idx v4.1 i28).bind fun y35=>
  cond (Q2 .eql y35.ID free27)
  (Qf N client name v4 n (wrap .i64 (free27+1)) (wrap .i64 (i28+1)))
  (Qf N client name v4 n free27 (wrap .i64 (i28+1)))))
  (cond (Q2 .gtr free27 65534)
  (some ((0,false,12),v4.2))
  ((Wu N v4.1 (⟨free27,name,false⟩:Qh)).bind fun v39=>
  (Yk N v4.2 client v39).bind fun v41=>
  some ((free27,true,0),v41.2)))
def Zt (N:Nat) (r_0:Q3) (client:List UInt8) (name:List UInt8):Option ((Int×Bool×Int)×Q3):=
 (Yc N name).bind fun v1=>
 cond (!v1)
 (some ((0,false,10),r_0))
 ((Y1 N r_0 client).bind fun v4=>
 Qf N client name v4 N 1 0)
theorem Gc {N} {r_0} {client} {name} {r} (h:Zt N r_0 client name=some r):Qn6 Tryz.prog G1 20 (Q3.cells r_0) [.str client,.str name] (.tuple [.int .i64 r.1.1,.bool r.1.2.1,.int .i64 r.1.2.2]) (Q3.cells r.2):=by
 refine Q37 k20 ?_;unfold Zt at h;refine cP h Xf p1 fun v1 h=>?_;apply iU h<;>intro h
 ·obtain rfl:=Qb h;exact ⟨_,_,rfl,p1,u3⟩
 refine cM h Ua rfl p1 fun v4 h=>?_;refine lpH (τ:=Int×Int) (fun ⟨free27,i28⟩=>(.ptr 0 0::iS client::iS name::a4 (a2 (.p (.slice 3 (Qi Qh.cells v4.1))::iI free27::iI i28::a16 (a16 (a8 (a4 ([])))))):List AV)) (fun n0 ⟨free27,i28⟩=>Qf N client name v4 n0 free27 i28) (1,0) h fun n0 ⟨free27,i28⟩ h=>?_
 first | rw [Qf] at h | simp only [Qf] at h
 rw [cX,cY] at h;apply iU h<;>intro h
 ·refine xR h fun y30 h=>?_;apply iU h<;>intro h
  ·refine xR h fun y33 h=>?_;obtain rfl:=Qb h;exact ⟨_,_,rfl,p1,u3⟩
  refine xR h fun y35 h=>?_;apply iU h<;>intro h
  ·show Exists _;exact ⟨(n0,(wrap .i64 (free27+1)),(wrap .i64 (i28+1))),h,Lg _,(fun i=>i),Y7⟩
  show Exists _;exact ⟨(n0,free27,(wrap .i64 (i28+1))),h,Lg _,(fun i=>i),Y7⟩
 apply iU h<;>intro h
 ·obtain rfl:=Qb h;exact ⟨_,_,rfl,p1,u3⟩
 refine cP h Q0l (.cons (.p _) (.cons (Ar p3) .nil)) fun v39 h=>?_;refine cM h J5 rfl p2 fun v41 h=>?_;obtain rfl:=Qb h;exact ⟨_,_,rfl,p1,u3⟩
def Jv (N:Nat) (R:Reg) (c n:List UInt8) (id:Int):Option (Int×Reg):=(V5 N n).bind fun b=>some (Qr1 b R c n id)
theorem Q78 {N R c n id r} (h:Jv N R c n id=some r):Q0j Tryz.prog G1 21 R [.str c,.str n,.int .i64 id] (.int .i64 r.1) r.2:=by
 obtain ⟨b,hb,h⟩:=Q2l h;cases h;exact Qx0 (J2 hb)
def Qq (N:Nat) (client:List UInt8) (name:List UInt8) (id:Int) (v6:(List Qh)×Q3):Nat->Int->Option ((Int)×Q3)
 | 0,_=>none
 | n+1,i37=>
  cond (Q2 .lss i37 ((Qi Qh.cells v6.1).length:Int))
  ((idx v6.1 i37).bind fun y39=>
  cond (Q2 .eql y39.ID id)
  (some (16,v6.2))
  ((idx v6.1 i37).bind fun y42=>
  cond (Jz .eql y42.Name name)
  (some (16,v6.2))
  (Qq N client name id v6 n (wrap .i64 (i37+1)))))
  ((Wu N v6.1 (⟨id,name,true⟩:Qh)).bind fun v45=>
  (Yk N v6.2 client v45).bind fun v47=>
  some (0,v47.2))
def Qx (N:Nat) (client:List UInt8) (name:List UInt8) (id:Int) (v6:(List Qh)×Q3):Nat->Int->Option ((Int)×Q3)
 | 0,_=>none
 | n+1,i17=>
  cond (Q2 .lss i17 ((Qi Qh.cells v6.1).length:Int))
  ((idx v6.1 i17).bind fun y19=>
  cond (((y19.ID:Int) == id)&&(((y19.Name:List UInt8) == name)&&(((y19.Fixed:Bool) == true)&&true)))
  (some (0,v6.2))
  (Qx N client name id v6 n (wrap .i64 (i17+1))))
  (Qq N client name id v6 N 0)
def Zq (N:Nat) (r_0:Q3) (client:List UInt8) (name:List UInt8) (id:Int):Option ((Int)×Q3):=
 (Yc N name).bind fun v1=>
 cond (!v1)
 (some (10,r_0))
 (cond (Q2 .lss id 1)
 (some (2,r_0))
 (cond (Q2 .gtr id 65534)
 (some (2,r_0))
 ((Y1 N r_0 client).bind fun v6=>
 Qx N client name id v6 N 0)))
theorem G8 {N} {r_0} {client} {name} {id} {r} (h:Zq N r_0 client name id=some r):Qn6 Tryz.prog G1 22 (Q3.cells r_0) [.str client,.str name,.int .i64 id] (.int .i64 r.1) (Q3.cells r.2):=by
 refine Q37 k22 ?_;unfold Zq at h;rw [cX] at h;refine cP h Xf p1 fun v1 h=>?_;apply iU h<;>intro h
 ·obtain rfl:=Qb h;exact ⟨_,_,rfl,p1,(.p _)⟩
 apply iU h<;>intro h
 ·obtain rfl:=Qb h;exact ⟨_,_,rfl,p1,(.p _)⟩
 apply iU h<;>intro h
 ·obtain rfl:=Qb h;exact ⟨_,_,rfl,p1,(.p _)⟩
 refine cM h Ua rfl p1 fun v6 h=>?_;refine lpH (τ:=Int) (fun i17=>(.ptr 0 0::iS client::iS name::iI id::a4 (.any :: .p (.slice 3 (Qi Qh.cells v6.1)) :: .ptr 1 0::iI i17::a16 (a16 (a16 (a8 (a2 ([])))))):List AV)) (fun n0 i17=>Qx N client name id v6 n0 i17) (0) h fun n0 i17 h=>?_
 first | rw [Qx] at h | simp only [Qx] at h
 rw [cX] at h;apply iU h<;>intro h
 ·refine Qm ?_;refine xR h fun y19 h=>?_;apply iU h<;>intro h
  ·obtain rfl:=Qb h;exact ⟨_,_,rfl,p1,(.p _)⟩
  show Exists _;exact ⟨(n0,(wrap .i64 (i17+1))),h,Lg _,(fun i=>i),Y7⟩
 refine lpH (τ:=Int) (fun i37=>(.ptr 0 0::iS client::iS name::iI id::a4 (.any :: .p (.slice 3 (Qi Qh.cells v6.1)) :: .ptr 1 0 :: .any::iI i37::a16 (a16 (a16 (a8 (.any :: []))))):List AV)) (fun n1 i37=>Qq N client name id v6 n1 i37) (0) h fun n1 i37 h=>?_
 first | rw [Qq] at h | simp only [Qq] at h
 rw [cX,cY] at h;apply iU h<;>intro h
 ·refine xR h fun y39 h=>?_;apply iU h<;>intro h
  ·obtain rfl:=Qb h;exact ⟨_,_,rfl,p1,(.p _)⟩
  refine xR h fun y42 h=>?_;apply iU h<;>intro h
  ·obtain rfl:=Qb h;exact ⟨_,_,rfl,p1,(.p _)⟩
  show Exists _;exact ⟨(n1,(wrap .i64 (i37+1))),h,Lg _,(fun i=>i),Y7⟩
 refine cP h Q0l (.cons (.p _) (.cons (Ar p3) .nil)) fun v45 h=>?_;refine cM h J5 rfl p2 fun v47 h=>?_;obtain rfl:=Qb h;exact ⟨_,_,rfl,p1,(.p _)⟩
def Qd6 (t:Int×List UInt8×Bool):Qh:=⟨t.1,t.2.1,t.2.2⟩
def Uj (_N:Nat) (R:Reg) (c:List UInt8):Option (List Qh×Reg):=cond (Tp.okAll R c) (some ((Tp.rTopics R c).map Qd6,R)) none
theorem Q25 {N R c r} (h:Uj N R c=some r):Q0j Tryz.prog G1 8 R [.str c] (.slice 3 (Qi Qh.cells r.1)) r.2:=by
 unfold Uj at h
 cases hk:Tp.okAll R c with
 | false=>rw [hk] at h;cases h
 | true=>
  rw [hk] at h;cases h
  have e:Qi Qh.cells ((Tp.rTopics R c).map Qd6)=Qi Tp.topC (Tp.rTopics R c):=by unfold Qi;rw [Nj];rfl
  show Q0j _ _ _ _ _ (.slice 3 (Qi Qh.cells ((Tp.rTopics R c).map Qd6))) _;rw [e];exact Tp.topics_reg hk
def Yu (N:Nat) (n_0:Int) (size:Int):Nat->Int->(List Int)->Option (List UInt8)
 | 0,_,_=>none
 | n+1,s14,l15=>
  cond (Q2 .lss s14 (ifB (decide (16<size)) 16 size))
  (cond (Q2 .lss s14 8)
  (cond (decide (0≤(wrap .u64 (wrap .i64 (8 * s14))))) ((idx (l15:List Int) (wrap .i64 ((wrap .i64 ((ifB (decide (16<size)) 16 size) - 1)) - s14))).bind fun y19=>
  Yu N n_0 size n (wrap .i64 (s14+1)) ((l15:List Int).set (Int.toNat (wrap .i64 ((wrap .i64 ((ifB (decide (16<size)) 16 size) - 1)) - s14))) (wrap .u8 (Qc6 .u64 n_0 (wrap .u64 (wrap .i64 (8 * s14))))))) none)
  (Yu N n_0 size n (wrap .i64 (s14+1)) l15))
  (some (l15.map fun n=>UInt8.ofNat n.toNat))
def Qt (N:Nat) (n_0:Int) (size:Int):Option (List UInt8):=
 cond (Q2 .leq size 0)
 (some [])
 (cond (decide (0≤(ifB (decide (16<size)) 16 size))&&decide ((ifB (decide (16<size)) 16 size)≤(ifB (decide (16<size)) 16 size))&&decide ((ifB (decide (16<size)) 16 size) * 1≤1099511627776)) (Yu N n_0 size N 0 (List.replicate ((ifB (decide (16<size)) 16 size):Int).toNat (0:Int))) none)
theorem Y0 {N} {n_0} {size} {r} (h:Qt N n_0 size=some r):pU 99 [.int .u64 n_0,.int .i64 size] (.str r):=by
 refine Q5 k99 ?_;unfold Qt at h;rw [cX] at h;refine iL h fun h=>?_;refine kU h fun h=>?_;refine Qxt (c:=(cI .u8)) (0:Int) rfl ?_;refine lpC (τ:=Int×(List Int)) (fun ⟨s14,l15⟩=>(iW n_0 :: .p (.int .i64 (ifB (decide (16<size)) 16 size))::a2 (.any :: .slice 1 1 0 l15.length::a4 (a2 (.any :: .p (.int .i64 (ifB (decide (16<size)) 16 size))::iI s14::a16 (a2 (.any :: []))))):List AV)) (fun ⟨_,l15⟩=>(.dead :: .cells (Yl (cI .u8) l15) :: []:List AObj)) (fun n0 ⟨s14,l15⟩=>Yu N n_0 size n0 s14 l15) (0,(List.replicate ((ifB (decide (16<size)) 16 size):Int).toNat (0:Int))) h (rho [0,0]) Y7 fun n0 ⟨s14,l15⟩ h=>?_
 first | rw [Yu] at h | simp only [Yu] at h
 rw [cX] at h;apply iU h<;>intro h
 ·apply iU h<;>intro h
  ·refine kU h fun h=>?_;obtain ⟨y19,hy20,h⟩:=Q2l h;refine Q0n (G9 hy20 sd) ?_;refine Q0n (Q08 (c:=(cI .u8)) (e:=1) (fun _=>rfl) hy20 (off:=0) (by omega) rfl (by decide)) ?_
   refine Q06 (c:=(cI .u8)) (e:=1) (fun _=>rfl) hy20 (wrap .u8 (Qc6 .u64 n_0 (wrap .u64 (wrap .i64 (8 * s14))))) (off:=0) (by first | omega | (simp only [Q45,orI,Qr3,Q26,Q4k,Qc6];omega)) rfl (by simp) ?_
   show Exists _;exact ⟨(n0,(wrap .i64 (s14+1)),((l15:List Int).set (Int.toNat (wrap .i64 ((wrap .i64 ((ifB (decide (16<size)) 16 size) - 1)) - s14))) (wrap .u8 (Qc6 .u64 n_0 (wrap .u64 (wrap .i64 (8 * s14))))))),h,Lg _,(fun i=>i),Y7⟩
  show Exists _;exact ⟨(n0,(wrap .i64 (s14+1)),l15),h,Lg _,(fun i=>i),Y7⟩
 refine Qtz (l:=l15) (n:=l15.length) sd ?_;cases h;exact (.p _)
def V1 (_N:Nat) (kind:Int):Option Bool:=
 cond (Q2 .eql kind 3)
 (some false)
 (cond (Q2 .eql kind 17)
 (some false)
 (cond (Q2 .eql kind 25)
 (some false)
 (cond (Q2 .eql kind 254)
 (some true)
 (cond (Q2 .geq kind 0)
 (some (Q2 .leq kind 29))
 (some false)))))
theorem Q3b {N} {kind} {r} (h:V1 N kind=some r):pU 92 [.int .i64 kind] (.bool r):=by
 refine Q5 k92 ?_;unfold V1 at h;rw [cX] at h;refine ifO h (fun hc1 h=>?_) (fun hc1 h=>?_)
 ·refine ifT hc1 ?_;cases h;exact (.p _)
 refine ifO h (fun hc2 h=>?_) (fun hc2 h=>?_)
 ·refine ifT hc2 ?_;cases h;exact (.p _)
 refine iL h fun h=>?_;refine iL h fun h=>?_;exact iB h
def Xe (N:Nat) (kind:Int) (rest:Int):Option ((List UInt8)×Int):=
 (V1 N kind).bind fun v1=>
 cond (!v1)
 (some ([],8))
 (cond (Q2 .lss rest 0)
 (some ([],2))
 (cond (Q2 .gtr rest 65531)
 (some ([],4))
 (cond (Q2 .leq (wrap .i64 (rest+2)) 255)
 ((Qt N (wrap .u64 (wrap .i64 (rest+2))) 1).bind fun v7=>
 (Qt N (wrap .u64 kind) 1).bind fun v9=>
 cond (Nat.ble (v7.length+v9.length) 4611686018427387904) (some ((v7++v9),0)) none)
 ((Qt N 1 1).bind fun v12=>
 (Qt N (wrap .u64 (wrap .i64 (rest+4))) 2).bind fun v14=>
 cond (Nat.ble (v12.length+v14.length) 4611686018427387904) ((Qt N (wrap .u64 kind) 1).bind fun v17=>
 cond (Nat.ble ((v12++v14).length+v17.length) 4611686018427387904) (some (((v12++v14)++v17),0)) none) none))))
theorem G5 {N} {kind} {rest} {r} (h:Xe N kind rest=some r):pU 64 [.int .i64 kind,.int .i64 rest] (.tuple [.str r.1,.int .i64 r.2]):=by
 refine Q5 k64 ?_;unfold Xe at h;rw [cX] at h;refine cP h Q3b p1 fun v1 h=>?_;refine iL2 h fun h=>?_;refine iL2 h fun h=>?_;refine iL2 h fun h=>?_;apply iU h<;>intro h
 ·refine cP h Y0 p2 fun v7 h=>?_;refine cP h Y0 p2 fun v9 h=>?_;refine kU h fun h=>?_;obtain rfl:=Qb h;exact u2
 refine cP h Y0 p2 fun v12 h=>?_;refine cP h Y0 p2 fun v14 h=>?_;refine kU h fun h=>?_;refine cP h Y0 p2 fun v17 h=>?_;refine kU h fun h=>?_;obtain rfl:=Qb h;exact u2
def Gg (N:Nat) (s_0:List UInt8):Nat->Int->Int->Option Int
 | 0,_,_=>none
 | n+1,n12,s13=>
  cond (Q2 .lss s13 (((s_0.take s_0.length).drop ((wrap .i64 ((s_0.length:Int) - 8)).toNat)).length:Int))
  ((idx ((s_0.take s_0.length).drop ((wrap .i64 ((s_0.length:Int) - 8)).toNat)) s13).bind fun b15=>
  Gg N s_0 n (orI .u64 (Q4k .u64 n12 8) (wrap .u64 (b15.toNat:Int))) (wrap .i64 (s13+1)))
  (some n12)
def Gd (N:Nat) (s_0:List UInt8):Nat->Int->Int->Option Int
 | 0,_,_=>none
 | n+1,n25,s26=>
  cond (Q2 .lss s26 (s_0.length:Int))
  ((idx s_0 s26).bind fun b28=>
  Gd N s_0 n (orI .u64 (Q4k .u64 n25 8) (wrap .u64 (b28.toNat:Int))) (wrap .i64 (s26+1)))
  (some n25)
def Uq (N:Nat) (s_0:List UInt8):Option Int:=
 cond (Q2 .gtr (s_0.length:Int) 8)
 (cond (decide (0≤(wrap .i64 ((s_0.length:Int) - 8)))) (cond (Nat.ble (wrap .i64 ((s_0.length:Int) - 8)).toNat s_0.length&&Nat.ble s_0.length s_0.length) (Gg N s_0 N 0 0) none) none)
 (Gd N s_0 N 0 0)
theorem Vo {N} {s_0} {r} (h:Uq N s_0=some r):pU 163 [.str s_0] (.int .u64 r):=by
 refine Q5 Z4z ?_;unfold Uq at h;rw [cX] at h;apply iU h<;>intro h
 ·refine kU h fun h=>?_;refine kU h fun h=>?_;refine lpH (τ:=Int×Int) (fun ⟨n12,s13⟩=>(.p (.str ((s_0.take s_0.length).drop ((wrap .i64 ((s_0.length:Int) - 8)).toNat))) :: .any :: .any::iW n12::a8 (a2 (.p (.int .i64 (((s_0.take s_0.length).drop ((wrap .i64 ((s_0.length:Int) - 8)).toNat)).length:Int))::iI s13::a8 (a2 (.any :: [])))):List AV)) (fun n0 ⟨n12,s13⟩=>Gg N s_0 n0 n12 s13) (0,0) h fun n0 ⟨n12,s13⟩ h=>?_
  first | rw [Gg] at h | simp only [Gg] at h
  rw [cX] at h;refine iR h fun h=>?_;refine xB h fun b15 h=>?_;show Exists _;exact ⟨(n0,(orI .u64 (Q4k .u64 n12 8) (wrap .u64 (b15.toNat:Int))),(wrap .i64 (s13+1))),h,Lg _,(fun i=>i),Y7⟩
 refine lpH (τ:=Int×Int) (fun ⟨n25,s26⟩=>(iS s_0 :: .any :: .any::iW n25::a8 (a2 (iI (s_0.length:Int)::iI s26::a8 (a2 (.any :: [])))):List AV)) (fun n1 ⟨n25,s26⟩=>Gd N s_0 n1 n25 s26) (0,0) h fun n1 ⟨n25,s26⟩ h=>?_
 first | rw [Gd] at h | simp only [Gd] at h
 rw [cX] at h;refine iR h fun h=>?_;refine xB h fun b28 h=>?_;show Exists _;exact ⟨(n1,(orI .u64 (Q4k .u64 n25 8) (wrap .u64 (b28.toNat:Int))),(wrap .i64 (s26+1))),h,Lg _,(fun i=>i),Y7⟩
def Za (N:Nat) (c:Q0):Option ((Unit)×Q0):=
 cond (Q2 .eql c.do' 0)
 ((Uq N []).bind fun v2=>
 some ((),(⟨c.do',(⟨c.m.Type',c.m.Flags,c.m.Gateway,c.m.Radius,c.m.Time,c.m.Timed,(wrap .i64 v2),c.m.MsgID,c.m.Code,c.m.Name,c.m.Data⟩:Yw),c.out,c.bad⟩:Q0)))
 (cond (Q2 .eql c.do' 1)
 ((Qt N (wrap .u64 c.m.TopicID) 2).bind fun v5=>
 cond (!(Nat.beq v5.length 0)) (cond (Nat.ble ((c.out.length+v5.length+4096) * 1) 17592186044416) (some ((),(⟨c.do',c.m,(c.out++(v5.map fun b=>(b.toNat:Int))),c.bad⟩:Q0))) none) none)
 (cond c.bad
 (some ((),(⟨c.do',(⟨c.m.Type',c.m.Flags,c.m.Gateway,c.m.Radius,c.m.Time,c.m.Timed,0,c.m.MsgID,c.m.Code,c.m.Name,c.m.Data⟩:Yw),c.out,true⟩:Q0)))
 (cond (Q2 .lss c.m.TopicID 0)
 (some ((),(⟨c.do',(⟨c.m.Type',c.m.Flags,c.m.Gateway,c.m.Radius,c.m.Time,c.m.Timed,0,c.m.MsgID,c.m.Code,c.m.Name,c.m.Data⟩:Yw),c.out,true⟩:Q0)))
 (some ((),(⟨c.do',(⟨c.m.Type',c.m.Flags,c.m.Gateway,c.m.Radius,c.m.Time,c.m.Timed,0,c.m.MsgID,c.m.Code,c.m.Name,c.m.Data⟩:Yw),c.out,(Q2 .geq c.m.TopicID (Q4k .i64 1 16))⟩:Q0))))))
theorem Wv {N} {c} {r} (h:Za N c=some r):gU 128 (.ptr 0 0 :: []) (.cells (Uy c 1) :: .cells (Yl (cI .u8) c.out) :: []) (.tuple []) (.cells (Uy r.2 2) :: .dead :: .cells (Yl (cI .u8) r.2.out) :: []):=by
 refine Vl Z5c (Lw rfl) ?_;unfold Za at h;rw [cX] at h;refine Q6 Qsf ?_;apply iU h<;>intro h
 ·refine Q6 Qrx ?_;refine Q6 Qnj ?_;refine Q6 Qjf ?_;refine cP h Vo p1 fun v2 h=>?_;obtain rfl:=Qb h;show Exists _;exact ⟨(rho [0,1,1]),Y7⟩
 apply iU h<;>intro h
 ·refine Qm ?_;refine cD h Y0 p2 fun v5 h=>?_;refine Q67 (b:=v5) ?_;obtain ⟨hk7,h⟩:=Q4i h;refine ifF (Qgz hk7) ?_;obtain ⟨hk8,h⟩:=Q4i h;refine Q0n (Ve (c:=(cI .u8)) (e:=1) (l:=c.out) (fun _=>rfl) sd hk8) ?_;refine Jr (c:=(cI .u8)) (l:=c.out) (v5.map fun b=>(b.toNat:Int)) rfl ?_;obtain rfl:=Qb h;show Exists _;exact ⟨(rho [0,1,2]),Y7⟩
 refine Qm ?_;apply iU h<;>intro h
 ·obtain rfl:=Qb h;show Exists _;exact ⟨(rho [0,1,1]),Y7⟩
 apply iU h<;>intro h
 ·obtain rfl:=Qb h;show Exists _;exact ⟨(rho [0,1,1]),Y7⟩
 obtain rfl:=Qb h;show Exists _;exact ⟨(rho [0,1,1]),Y7⟩
def Qu (N:Nat) (c:Q0):Option ((Unit)×Q0):=
 cond (Q2 .eql c.do' 0)
 ((Uq N []).bind fun v2=>
 some ((),(⟨c.do',(⟨c.m.Type',c.m.Flags,c.m.Gateway,c.m.Radius,c.m.Time,c.m.Timed,c.m.TopicID,(wrap .i64 v2),c.m.Code,c.m.Name,c.m.Data⟩:Yw),c.out,c.bad⟩:Q0)))
 (cond (Q2 .eql c.do' 1)
 ((Qt N (wrap .u64 c.m.MsgID) 2).bind fun v5=>
 cond (!(Nat.beq v5.length 0)) (cond (Nat.ble ((c.out.length+v5.length+4096) * 1) 17592186044416) (some ((),(⟨c.do',c.m,(c.out++(v5.map fun b=>(b.toNat:Int))),c.bad⟩:Q0))) none) none)
 (cond c.bad
 (some ((),(⟨c.do',(⟨c.m.Type',c.m.Flags,c.m.Gateway,c.m.Radius,c.m.Time,c.m.Timed,c.m.TopicID,0,c.m.Code,c.m.Name,c.m.Data⟩:Yw),c.out,true⟩:Q0)))
 (cond (Q2 .lss c.m.MsgID 0)
 (some ((),(⟨c.do',(⟨c.m.Type',c.m.Flags,c.m.Gateway,c.m.Radius,c.m.Time,c.m.Timed,c.m.TopicID,0,c.m.Code,c.m.Name,c.m.Data⟩:Yw),c.out,true⟩:Q0)))
 (some ((),(⟨c.do',(⟨c.m.Type',c.m.Flags,c.m.Gateway,c.m.Radius,c.m.Time,c.m.Timed,c.m.TopicID,0,c.m.Code,c.m.Name,c.m.Data⟩:Yw),c.out,(Q2 .geq c.m.MsgID (Q4k .i64 1 16))⟩:Q0))))))
theorem Zy {N} {c} {r} (h:Qu N c=some r):gU 129 (.ptr 0 0 :: []) (.cells (Uy c 1) :: .cells (Yl (cI .u8) c.out) :: []) (.tuple []) (.cells (Uy r.2 2) :: .dead :: .cells (Yl (cI .u8) r.2.out) :: []):=by
 refine Vl Z3n (Lw rfl) ?_;unfold Qu at h;rw [cX] at h;refine Q6 Qsf ?_;apply iU h<;>intro h
 ·refine Q6 Qrx ?_;refine Q6 Qnj ?_;refine Q6 Qjf ?_;refine cP h Vo p1 fun v2 h=>?_;obtain rfl:=Qb h;show Exists _;exact ⟨(rho [0,1,1]),Y7⟩
 apply iU h<;>intro h
 ·refine Qm ?_;refine cD h Y0 p2 fun v5 h=>?_;refine Q67 (b:=v5) ?_;obtain ⟨hk7,h⟩:=Q4i h;refine ifF (Qgz hk7) ?_;obtain ⟨hk8,h⟩:=Q4i h;refine Q0n (Ve (c:=(cI .u8)) (e:=1) (l:=c.out) (fun _=>rfl) sd hk8) ?_;refine Jr (c:=(cI .u8)) (l:=c.out) (v5.map fun b=>(b.toNat:Int)) rfl ?_;obtain rfl:=Qb h;show Exists _;exact ⟨(rho [0,1,2]),Y7⟩
 refine Qm ?_;apply iU h<;>intro h
 ·obtain rfl:=Qb h;show Exists _;exact ⟨(rho [0,1,1]),Y7⟩
 apply iU h<;>intro h
 ·obtain rfl:=Qb h;show Exists _;exact ⟨(rho [0,1,1]),Y7⟩
 obtain rfl:=Qb h;show Exists _;exact ⟨(rho [0,1,1]),Y7⟩
def Qa (_N:Nat) (c:Q0):Option ((Unit)×Q0):=
 cond (Q2 .eql c.do' 0)
 (some ((),(⟨c.do',(⟨c.m.Type',c.m.Flags,c.m.Gateway,c.m.Radius,c.m.Time,c.m.Timed,c.m.TopicID,c.m.MsgID,c.m.Code,[],c.m.Data⟩:Yw),c.out,c.bad⟩:Q0)))
 (cond (Q2 .eql c.do' 1)
 (cond (Nat.beq c.m.Name.length 0)
 (some ((),c))
 (cond (Nat.ble ((c.out.length+c.m.Name.length+4096) * 1) 17592186044416) (some ((),(⟨c.do',c.m,(c.out++(c.m.Name.map fun b=>(b.toNat:Int))),c.bad⟩:Q0))) none))
 (some ((),(⟨c.do',(⟨c.m.Type',c.m.Flags,c.m.Gateway,c.m.Radius,c.m.Time,c.m.Timed,c.m.TopicID,c.m.MsgID,c.m.Code,[],c.m.Data⟩:Yw),c.out,c.bad⟩:Q0))))
theorem Yg {N} {c} {r} (h:Qa N c=some r):gU 122 (.ptr 0 0 :: []) (.cells (Uy c 1) :: .cells (Yl (cI .u8) c.out) :: []) (.tuple []) (.cells (Uy r.2 2) :: .dead :: .cells (Yl (cI .u8) r.2.out) :: []):=by
 refine Vl Z3a (Lw rfl) ?_;unfold Qa at h;rw [cX] at h;refine Q6 Z19 ?_;apply iU h<;>intro h
 ·refine Qm ?_;refine Q22 [] (r:=iI 0) rfl rfl (fun a ha o ho=>?_) (Q6 Qxz ?_) ?_
  ·simp at ha
  ·refine Q6 Qwb ?_;exact ⟨rfl,[],(Nh _).symm⟩
  refine Q22 [] (r:=iS []) rfl rfl (fun a ha o ho=>?_) (Q6 Qnj ?_) ?_
  ·simp at ha
  ·refine Q6 Qjf ?_;exact ⟨rfl,[],(Nh _).symm⟩
  obtain rfl:=Qb h;show Exists _;exact ⟨(rho [0,1,1]),Y7⟩
 apply iU h<;>intro h
 ·refine Qm ?_;refine Q67 (b:=c.m.Name) ?_;apply iU h<;>intro h
  ·obtain rfl:=Qb h;show Exists _;exact ⟨(rho [0,1,1]),Y7⟩
  obtain ⟨hk4,h⟩:=Q4i h;refine Q0n (Ve (c:=(cI .u8)) (e:=1) (l:=c.out) (fun _=>rfl) sd hk4) ?_;refine Jr (c:=(cI .u8)) (l:=c.out) (c.m.Name.map fun b=>(b.toNat:Int)) rfl ?_;obtain rfl:=Qb h;show Exists _;exact ⟨(rho [0,1,2]),Y7⟩
 obtain rfl:=Qb h;show Exists _;exact ⟨(rho [0,1,1]),Y7⟩
def Y4 (N:Nat) (c:Q0):Option ((Unit)×Q0):=
 cond (Q2 .eql c.m.Flags.Type' 0)
 ((Qa N c).bind fun v2=>
 some ((),v2.2))
 ((Za N c).bind fun v4=>
 some ((),v4.2))
theorem Q0m {N} {c} {r} (h:Y4 N c=some r):gU 130 (.ptr 0 0 :: []) (.cells (Uy c 1) :: .cells (Yl (cI .u8) c.out) :: []) (.tuple []) (.cells (Uy r.2 2) :: .dead :: .cells (Yl (cI .u8) r.2.out) :: []):=by
 refine Vl Z2y (Lw rfl) ?_;unfold Y4 at h;rw [cX] at h;apply iU h<;>intro h
 ·refine cG h Yg fun v2 h=>?_;refine ⟨rho [0,1],(.cells (Uy v2.2 2) :: .dead :: .cells (Yl (cI .u8) v2.2.out) :: []),.tuple [],gcQ,?_⟩;obtain rfl:=Qb h;show Exists _;exact ⟨(rho [0,1,2]),Y7⟩
 refine cG h Wv fun v4 h=>?_;refine ⟨rho [0,1],(.cells (Uy v4.2 2) :: .dead :: .cells (Yl (cI .u8) v4.2.out) :: []),.tuple [],gcQ,?_⟩;obtain rfl:=Qb h;show Exists _;exact ⟨(rho [0,1,2]),Y7⟩
def Y3 (N:Nat) (c:Q0):Option ((Unit)×Q0):=
 cond (Q2 .eql c.do' 0)
 ((Uq N []).bind fun v2=>
 some ((),(⟨c.do',(⟨c.m.Type',c.m.Flags,c.m.Gateway,c.m.Radius,(wrap .i64 v2),c.m.Timed,c.m.TopicID,c.m.MsgID,c.m.Code,c.m.Name,c.m.Data⟩:Yw),c.out,c.bad⟩:Q0)))
 (cond (Q2 .eql c.do' 1)
 ((Qt N (wrap .u64 c.m.Time) 2).bind fun v5=>
 cond (!(Nat.beq v5.length 0)) (cond (Nat.ble ((c.out.length+v5.length+4096) * 1) 17592186044416) (some ((),(⟨c.do',c.m,(c.out++(v5.map fun b=>(b.toNat:Int))),c.bad⟩:Q0))) none) none)
 (cond c.bad
 (some ((),(⟨c.do',(⟨c.m.Type',c.m.Flags,c.m.Gateway,c.m.Radius,0,c.m.Timed,c.m.TopicID,c.m.MsgID,c.m.Code,c.m.Name,c.m.Data⟩:Yw),c.out,true⟩:Q0)))
 (cond (Q2 .lss c.m.Time 0)
 (some ((),(⟨c.do',(⟨c.m.Type',c.m.Flags,c.m.Gateway,c.m.Radius,0,c.m.Timed,c.m.TopicID,c.m.MsgID,c.m.Code,c.m.Name,c.m.Data⟩:Yw),c.out,true⟩:Q0)))
 (some ((),(⟨c.do',(⟨c.m.Type',c.m.Flags,c.m.Gateway,c.m.Radius,0,c.m.Timed,c.m.TopicID,c.m.MsgID,c.m.Code,c.m.Name,c.m.Data⟩:Yw),c.out,(Q2 .geq c.m.Time (Q4k .i64 1 16))⟩:Q0))))))
theorem Jw {N} {c} {r} (h:Y3 N c=some r):gU 120 (.ptr 0 0 :: []) (.cells (Uy c 1) :: .cells (Yl (cI .u8) c.out) :: []) (.tuple []) (.cells (Uy r.2 2) :: .dead :: .cells (Yl (cI .u8) r.2.out) :: []):=by
 refine Vl Z4y (Lw rfl) ?_;unfold Y3 at h;rw [cX] at h;refine Q6 Qsf ?_;apply iU h<;>intro h
 ·refine Q6 Qrx ?_;refine Q6 Qnj ?_;refine Q6 Qjf ?_;refine cP h Vo p1 fun v2 h=>?_;obtain rfl:=Qb h;show Exists _;exact ⟨(rho [0,1,1]),Y7⟩
 apply iU h<;>intro h
 ·refine Qm ?_;refine cD h Y0 p2 fun v5 h=>?_;refine Q67 (b:=v5) ?_;obtain ⟨hk7,h⟩:=Q4i h;refine ifF (Qgz hk7) ?_;obtain ⟨hk8,h⟩:=Q4i h;refine Q0n (Ve (c:=(cI .u8)) (e:=1) (l:=c.out) (fun _=>rfl) sd hk8) ?_;refine Jr (c:=(cI .u8)) (l:=c.out) (v5.map fun b=>(b.toNat:Int)) rfl ?_;obtain rfl:=Qb h;show Exists _;exact ⟨(rho [0,1,2]),Y7⟩
 refine Qm ?_;apply iU h<;>intro h
 ·obtain rfl:=Qb h;show Exists _;exact ⟨(rho [0,1,1]),Y7⟩
 apply iU h<;>intro h
 ·obtain rfl:=Qb h;show Exists _;exact ⟨(rho [0,1,1]),Y7⟩
 obtain rfl:=Qb h;show Exists _;exact ⟨(rho [0,1,1]),Y7⟩
def Yo (N:Nat) (c:Q0):Option ((Unit)×Q0):=
 cond (Q2 .eql c.do' 0)
 (cond (Q2 .eql c.do' 2)
 (some ((),(⟨c.do',(⟨c.m.Type',c.m.Flags,c.m.Gateway,c.m.Radius,c.m.Time,false,c.m.TopicID,c.m.MsgID,c.m.Code,c.m.Name,c.m.Data⟩:Yw),c.out,c.bad⟩:Q0)))
 (some ((),(⟨c.do',(⟨c.m.Type',c.m.Flags,c.m.Gateway,c.m.Radius,c.m.Time,(Q2 .gtr 0 0),c.m.TopicID,c.m.MsgID,c.m.Code,c.m.Name,c.m.Data⟩:Yw),c.out,c.bad⟩:Q0))))
 (cond c.m.Timed
 ((Y3 N c).bind fun v4=>
 cond (Q2 .eql v4.2.do' 2)
 (some ((),(⟨v4.2.do',(⟨v4.2.m.Type',v4.2.m.Flags,v4.2.m.Gateway,v4.2.m.Radius,v4.2.m.Time,false,v4.2.m.TopicID,v4.2.m.MsgID,v4.2.m.Code,v4.2.m.Name,v4.2.m.Data⟩:Yw),v4.2.out,v4.2.bad⟩:Q0)))
 (some ((),v4.2)))
 (cond (Q2 .eql c.do' 2)
 (some ((),(⟨c.do',(⟨c.m.Type',c.m.Flags,c.m.Gateway,c.m.Radius,c.m.Time,false,c.m.TopicID,c.m.MsgID,c.m.Code,c.m.Name,c.m.Data⟩:Yw),c.out,c.bad⟩:Q0)))
 (some ((),c))))
theorem Q2d {N} {c} {r} (h:Yo N c=some r):gU 131 (.ptr 0 0 :: []) (.cells (Uy c 1) :: .cells (Yl (cI .u8) c.out) :: []) (.tuple []) (.cells (Uy r.2 2) :: .dead :: .cells (Yl (cI .u8) r.2.out) :: []):=by
 refine Vl Z3d (Lw rfl) ?_;unfold Yo at h;rw [cX] at h;apply iU h<;>intro h
 ·refine Q6 Qxz ?_;refine Q6 Qwb ?_;refine dF ?_;apply iU h<;>intro h
  ·obtain rfl:=Qb h;show Exists _;exact ⟨(rho [0,1,1]),Y7⟩
  obtain rfl:=Qb h;show Exists _;exact ⟨(rho [0,1,1]),Y7⟩
 apply iU h<;>intro h
 ·refine cG h Jw fun v4 h=>?_;refine ⟨rho [0,1],(.cells (Uy v4.2 2) :: .dead :: .cells (Yl (cI .u8) v4.2.out) :: []),.tuple [],gcQ,?_⟩;apply iU h<;>intro h
  ·obtain rfl:=Qb h;show Exists _;exact ⟨(rho [0,1,2]),Y7⟩
  obtain rfl:=Qb h;show Exists _;exact ⟨(rho [0,1,2]),Y7⟩
 apply iU h<;>intro h
 ·obtain rfl:=Qb h;show Exists _;exact ⟨(rho [0,1,1]),Y7⟩
 obtain rfl:=Qb h;show Exists _;exact ⟨(rho [0,1,1]),Y7⟩
def Zr (N:Nat) (c:Q0):Option ((Unit)×Q0):=
 cond (Q2 .eql c.do' 0)
 ((Uq N []).bind fun v2=>
 some ((),(⟨c.do',(⟨c.m.Type',c.m.Flags,(wrap .i64 v2),c.m.Radius,c.m.Time,c.m.Timed,c.m.TopicID,c.m.MsgID,c.m.Code,c.m.Name,c.m.Data⟩:Yw),c.out,c.bad⟩:Q0)))
 (cond (Q2 .eql c.do' 1)
 ((Qt N (wrap .u64 c.m.Gateway) 1).bind fun v5=>
 cond (!(Nat.beq v5.length 0)) (cond (Nat.ble ((c.out.length+v5.length+4096) * 1) 17592186044416) (some ((),(⟨c.do',c.m,(c.out++(v5.map fun b=>(b.toNat:Int))),c.bad⟩:Q0))) none) none)
 (cond c.bad
 (some ((),(⟨c.do',(⟨c.m.Type',c.m.Flags,0,c.m.Radius,c.m.Time,c.m.Timed,c.m.TopicID,c.m.MsgID,c.m.Code,c.m.Name,c.m.Data⟩:Yw),c.out,true⟩:Q0)))
 (cond (Q2 .lss c.m.Gateway 0)
 (some ((),(⟨c.do',(⟨c.m.Type',c.m.Flags,0,c.m.Radius,c.m.Time,c.m.Timed,c.m.TopicID,c.m.MsgID,c.m.Code,c.m.Name,c.m.Data⟩:Yw),c.out,true⟩:Q0)))
 (some ((),(⟨c.do',(⟨c.m.Type',c.m.Flags,0,c.m.Radius,c.m.Time,c.m.Timed,c.m.TopicID,c.m.MsgID,c.m.Code,c.m.Name,c.m.Data⟩:Yw),c.out,(Q2 .geq c.m.Gateway (Q4k .i64 1 8))⟩:Q0))))))
theorem Gs {N} {c} {r} (h:Zr N c=some r):gU 119 (.ptr 0 0 :: []) (.cells (Uy c 1) :: .cells (Yl (cI .u8) c.out) :: []) (.tuple []) (.cells (Uy r.2 2) :: .dead :: .cells (Yl (cI .u8) r.2.out) :: []):=by
 refine Vl Z5x (Lw rfl) ?_;unfold Zr at h;rw [cX] at h;refine Q6 Qsf ?_;apply iU h<;>intro h
 ·refine Q6 Qrx ?_;refine Q6 Qnj ?_;refine Q6 Qjf ?_;refine cP h Vo p1 fun v2 h=>?_;obtain rfl:=Qb h;show Exists _;exact ⟨(rho [0,1,1]),Y7⟩
 apply iU h<;>intro h
 ·refine Qm ?_;refine cD h Y0 p2 fun v5 h=>?_;refine Q67 (b:=v5) ?_;obtain ⟨hk7,h⟩:=Q4i h;refine ifF (Qgz hk7) ?_;obtain ⟨hk8,h⟩:=Q4i h;refine Q0n (Ve (c:=(cI .u8)) (e:=1) (l:=c.out) (fun _=>rfl) sd hk8) ?_;refine Jr (c:=(cI .u8)) (l:=c.out) (v5.map fun b=>(b.toNat:Int)) rfl ?_;obtain rfl:=Qb h;show Exists _;exact ⟨(rho [0,1,2]),Y7⟩
 refine Qm ?_;apply iU h<;>intro h
 ·obtain rfl:=Qb h;show Exists _;exact ⟨(rho [0,1,1]),Y7⟩
 apply iU h<;>intro h
 ·obtain rfl:=Qb h;show Exists _;exact ⟨(rho [0,1,1]),Y7⟩
 obtain rfl:=Qb h;show Exists _;exact ⟨(rho [0,1,1]),Y7⟩
def Yb (N:Nat) (c:Q0):Option ((Unit)×Q0):=
 cond (Q2 .eql c.do' 0)
 ((Uq N []).bind fun v2=>
 some ((),(⟨c.do',(⟨c.m.Type',c.m.Flags,c.m.Gateway,(wrap .i64 v2),c.m.Time,c.m.Timed,c.m.TopicID,c.m.MsgID,c.m.Code,c.m.Name,c.m.Data⟩:Yw),c.out,c.bad⟩:Q0)))
 (cond (Q2 .eql c.do' 1)
 ((Qt N (wrap .u64 c.m.Radius) 1).bind fun v5=>
 cond (!(Nat.beq v5.length 0)) (cond (Nat.ble ((c.out.length+v5.length+4096) * 1) 17592186044416) (some ((),(⟨c.do',c.m,(c.out++(v5.map fun b=>(b.toNat:Int))),c.bad⟩:Q0))) none) none)
 (cond c.bad
 (some ((),(⟨c.do',(⟨c.m.Type',c.m.Flags,c.m.Gateway,0,c.m.Time,c.m.Timed,c.m.TopicID,c.m.MsgID,c.m.Code,c.m.Name,c.m.Data⟩:Yw),c.out,true⟩:Q0)))
 (cond (Q2 .lss c.m.Radius 0)
 (some ((),(⟨c.do',(⟨c.m.Type',c.m.Flags,c.m.Gateway,0,c.m.Time,c.m.Timed,c.m.TopicID,c.m.MsgID,c.m.Code,c.m.Name,c.m.Data⟩:Yw),c.out,true⟩:Q0)))
 (some ((),(⟨c.do',(⟨c.m.Type',c.m.Flags,c.m.Gateway,0,c.m.Time,c.m.Timed,c.m.TopicID,c.m.MsgID,c.m.Code,c.m.Name,c.m.Data⟩:Yw),c.out,(Q2 .geq c.m.Radius (Q4k .i64 1 8))⟩:Q0))))))
theorem Q3i {N} {c} {r} (h:Yb N c=some r):gU 121 (.ptr 0 0 :: []) (.cells (Uy c 1) :: .cells (Yl (cI .u8) c.out) :: []) (.tuple []) (.cells (Uy r.2 2) :: .dead :: .cells (Yl (cI .u8) r.2.out) :: []):=by
 refine Vl Z5d (Lw rfl) ?_;unfold Yb at h;rw [cX] at h;refine Q6 Qsf ?_;apply iU h<;>intro h
 ·refine Q6 Qrx ?_;refine Q6 Qnj ?_;refine Q6 Qjf ?_;refine cP h Vo p1 fun v2 h=>?_;obtain rfl:=Qb h;show Exists _;exact ⟨(rho [0,1,1]),Y7⟩
 apply iU h<;>intro h
 ·refine Qm ?_;refine cD h Y0 p2 fun v5 h=>?_;refine Q67 (b:=v5) ?_;obtain ⟨hk7,h⟩:=Q4i h;refine ifF (Qgz hk7) ?_;obtain ⟨hk8,h⟩:=Q4i h;refine Q0n (Ve (c:=(cI .u8)) (e:=1) (l:=c.out) (fun _=>rfl) sd hk8) ?_;refine Jr (c:=(cI .u8)) (l:=c.out) (v5.map fun b=>(b.toNat:Int)) rfl ?_;obtain rfl:=Qb h;show Exists _;exact ⟨(rho [0,1,2]),Y7⟩
 refine Qm ?_;apply iU h<;>intro h
 ·obtain rfl:=Qb h;show Exists _;exact ⟨(rho [0,1,1]),Y7⟩
 apply iU h<;>intro h
 ·obtain rfl:=Qb h;show Exists _;exact ⟨(rho [0,1,1]),Y7⟩
 obtain rfl:=Qb h;show Exists _;exact ⟨(rho [0,1,1]),Y7⟩
def V0 (_N:Nat) (f:Zh):Option (Int×Int):=
 cond (Q2 .lss f.QoS (-1))
 (some (0,7))
 (cond (Q2 .gtr f.QoS 2)
 (some (0,7))
 (cond (Q2 .lss f.Type' 0)
 (some (0,7))
 (cond (Q2 .gtr f.Type' 2)
 (some (0,7))
 (cond f.Clean
 (cond f.Will
 (cond f.Retain
 (cond f.Dup
 (some ((orI .i64 (orI .i64 (orI .i64 (orI .i64 (orI .i64 f.Type' 4) 8) 16) 128) (wrap .i64 ((Q45 .i64 f.QoS 3) * 32))),0))
 (some ((orI .i64 (orI .i64 (orI .i64 (orI .i64 f.Type' 4) 8) 16) (wrap .i64 ((Q45 .i64 f.QoS 3) * 32))),0)))
 (cond f.Dup
 (some ((orI .i64 (orI .i64 (orI .i64 (orI .i64 f.Type' 4) 8) 128) (wrap .i64 ((Q45 .i64 f.QoS 3) * 32))),0))
 (some ((orI .i64 (orI .i64 (orI .i64 f.Type' 4) 8) (wrap .i64 ((Q45 .i64 f.QoS 3) * 32))),0))))
 (cond f.Retain
 (cond f.Dup
 (some ((orI .i64 (orI .i64 (orI .i64 (orI .i64 f.Type' 4) 16) 128) (wrap .i64 ((Q45 .i64 f.QoS 3) * 32))),0))
 (some ((orI .i64 (orI .i64 (orI .i64 f.Type' 4) 16) (wrap .i64 ((Q45 .i64 f.QoS 3) * 32))),0)))
 (cond f.Dup
 (some ((orI .i64 (orI .i64 (orI .i64 f.Type' 4) 128) (wrap .i64 ((Q45 .i64 f.QoS 3) * 32))),0))
 (some ((orI .i64 (orI .i64 f.Type' 4) (wrap .i64 ((Q45 .i64 f.QoS 3) * 32))),0)))))
 (cond f.Will
 (cond f.Retain
 (cond f.Dup
 (some ((orI .i64 (orI .i64 (orI .i64 (orI .i64 f.Type' 8) 16) 128) (wrap .i64 ((Q45 .i64 f.QoS 3) * 32))),0))
 (some ((orI .i64 (orI .i64 (orI .i64 f.Type' 8) 16) (wrap .i64 ((Q45 .i64 f.QoS 3) * 32))),0)))
 (cond f.Dup
 (some ((orI .i64 (orI .i64 (orI .i64 f.Type' 8) 128) (wrap .i64 ((Q45 .i64 f.QoS 3) * 32))),0))
 (some ((orI .i64 (orI .i64 f.Type' 8) (wrap .i64 ((Q45 .i64 f.QoS 3) * 32))),0))))
 (cond f.Retain
 (cond f.Dup
 (some ((orI .i64 (orI .i64 (orI .i64 f.Type' 16) 128) (wrap .i64 ((Q45 .i64 f.QoS 3) * 32))),0))
 (some ((orI .i64 (orI .i64 f.Type' 16) (wrap .i64 ((Q45 .i64 f.QoS 3) * 32))),0)))
 (cond f.Dup
 (some ((orI .i64 (orI .i64 f.Type' 128) (wrap .i64 ((Q45 .i64 f.QoS 3) * 32))),0))
 (some ((orI .i64 f.Type' (wrap .i64 ((Q45 .i64 f.QoS 3) * 32))),0)))))))))
theorem Q4d {N} {f} {r} (h:V0 N f=some r):pU 93 [.agg (Zh.cells f)] (.tuple [.int .i64 r.1,.int .i64 r.2]):=by
 refine Q5 k93 ?_;unfold V0 at h;rw [cX] at h;refine iL2 h fun h=>?_;refine iL2 h fun h=>?_;refine iL2 h fun h=>?_;refine iL2 h fun h=>?_;refine Q6 Qhv ?_;apply iU h<;>intro h
 ·refine Q6 Qhv ?_;apply iU h<;>intro h
  ·refine Q6 Qhv ?_;apply iU h<;>intro h
   ·refine Q6 Qhv ?_;exact iB2 h
   refine Q6 Qhv ?_;exact iB2 h
  refine Q6 Qhv ?_;apply iU h<;>intro h
  ·refine Q6 Qhv ?_;exact iB2 h
  refine Q6 Qhv ?_;exact iB2 h
 refine Q6 Qhv ?_;apply iU h<;>intro h
 ·refine Q6 Qhv ?_;apply iU h<;>intro h
  ·refine Q6 Qhv ?_;exact iB2 h
  refine Q6 Qhv ?_;exact iB2 h
 refine Q6 Qhv ?_;apply iU h<;>intro h
 ·refine Q6 Qhv ?_;exact iB2 h
 refine Q6 Qhv ?_;exact iB2 h
end
end
end Go.Av
