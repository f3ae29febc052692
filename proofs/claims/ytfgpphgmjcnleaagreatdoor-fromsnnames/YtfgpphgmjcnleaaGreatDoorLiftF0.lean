/- Part of FromsnNames: the law returns true; no condition. -/
import Derived.Test.YtfgpphgmjcnleaaGreatDoorLiftTy
import Derived.Test.YtfgpphgmjcnleaaGreatDoorChks
import Derived.Test.YtfgpphgmjcnleaaGreatDoorSeat1
import Derived.Test.YtfgpphgmjcnleaaGreatDoorRound
import Derived.Test.YtfgpphgmjcnleaaGreatDoorRegT
import Derived.Test.YtfgpphgmjcnleaaGreatDoorRegC
import Derived.Test.YtfgpphgmjcnleaaGreatDoorTpClearA
import Derived.Test.YtfgpphgmjcnleaaGreatDoorDrawS
set_option linter.all false
open Go.IntKind (wrap)
namespace Go.Av
noncomputable section
open Go.Proofs
set_option maxRecDepth 100000
set_option maxHeartbeats 4000000
attribute [local irreducible] Qv Q8 Q3g Q27 Qpn Qj3 Qgp
section
abbrev pU:=Q5r Tryz.prog G1
abbrev gU:=GC Tryz.prog G1
def Gk (_N:Nat):Option Bool:=some true
theorem Q26 {N r} (h:Gk N=some r):pU 4 [] (.bool r):=by cases h;exact Qf8 Qmc (N:=4000) (d:=60) (by kernel_rfl)
def Q0h (_N:Nat) (s_0:List UInt8):Option Bool:=
 cond (Q6 .geq (s_0.length:Int) 3)
 (cond (Nat.ble 0 3&&Nat.ble 3 s_0.length) (some (Q31 .eql ((s_0.take 3).drop 0) [239,191,189])) none)
 (some false)
theorem Q61 {N} {s_0} {r} (h:Q0h N s_0=some r):pU 162 [.str s_0] (.bool r):=by
 refine Q2 Qvv ?_;unfold Q0h at h;rw [cX,cY] at h;refine iR h fun h=>?_;refine kU h fun h=>?_;cases h;exact (.p _)
def Xj (N:Nat) (s_0:List UInt8):Nat->Nat->Option Int
 | 0,_=>none
 | n+1,pos16=>
  cond (Nat.blt pos16 s_0.length)
  (cond (Q6 .eql (((Q8q s_0 pos16).1:Nat):Int) 0)
  (some ((pos16:Nat):Int))
  (cond (Q6 .eql (((Q8q s_0 pos16).1:Nat):Int) 65533)
  (cond (Nat.ble pos16 s_0.length&&Nat.ble s_0.length s_0.length) ((Q0h N ((s_0.take s_0.length).drop pos16)).bind fun v21=>
  cond (!v21)
  (some ((pos16:Nat):Int))
  (Xj N s_0 n (pos16+(Q8q s_0 pos16).2))) none)
  (Xj N s_0 n (pos16+(Q8q s_0 pos16).2))))
  (some (-1))
def Q2f (N:Nat) (s_0:List UInt8):Option Int:=
 Xj N s_0 N 0
theorem Q8g {N} {s_0} {r} (h:Q2f N s_0=some r):pU 123 [.str s_0] (.int .i64 r):=by
 refine Q2 Qyr ?_;unfold Q2f at h;refine lpA (τ:=Nat) (fun _=>(iS s_0::a4 (.any :: .ptr 0 0::a16 (a2 ([]))):List AV)) (fun pos16=>(.strIter s_0 pos16 :: []:List AObj)) (fun n0 pos16=>Xj N s_0 n0 pos16) (0) h fun n0 pos16 h=>?_
 first | rw [Xj] at h | simp only [Xj] at h
 rw [cX] at h;refine iR h fun h=>?_;refine iL h fun h=>?_;apply iU h<;>intro h
 ·refine kU h fun h=>?_;refine cP h Q61 p1 fun v21 h=>?_;refine iL h fun h=>?_;show Exists _;exact ⟨(n0,(pos16+(Q8q s_0 pos16).2)),h,Ll _,(fun i=>i),Z2⟩
 show Exists _;exact ⟨(n0,(pos16+(Q8q s_0 pos16).2)),h,Ll _,(fun i=>i),Z2⟩
def Y3 (N:Nat) (s_0:List UInt8):Option Bool:=
 cond (Q6 .leq (s_0.length:Int) 65535)
 ((Q2f N s_0).bind fun v2=>
 some (Q6 .eql v2 (-1)))
 (some false)
theorem Zy {N} {s_0} {r} (h:Y3 N s_0=some r):pU 85 [.str s_0] (.bool r):=by
 refine Q2 k85 ?_;unfold Y3 at h;rw [cX] at h;refine iR h fun h=>?_;refine cP h Q8g p1 fun v2 h=>?_;cases h;exact (.p _)
def Q15 (N:Nat) (s_0:List UInt8):Option Bool:=
 cond (Q31 .neq s_0 [])
 ((Y3 N s_0).bind fun v2=>
 some v2)
 (some false)
theorem Q3j {N} {s_0} {r} (h:Q15 N s_0=some r):pU 54 [.str s_0] (.bool r):=by
 refine Q2 k54 ?_;unfold Q15 at h;rw [cY] at h;refine iR h fun h=>?_;refine cP h Zy p1 fun v2 h=>?_;cases h;exact (.p _)
def Wb (_N:Nat) (r_0:Int):Option Bool:=
 cond (Q6 .leq 0 r_0)
 (cond (Q6 .lss r_0 55296)
 (some true)
 (cond (Q6 .lss 57343 r_0)
 (cond (Q6 .leq r_0 1114111)
 (some true)
 (some false))
 (some false)))
 (cond (Q6 .lss 57343 r_0)
 (cond (Q6 .leq r_0 1114111)
 (some true)
 (some false))
 (some false))
theorem Q0n {N} {r_0} {r} (h:Wb N r_0=some r):pU 176 [.int .i32 r_0] (.bool r):=by
 refine Q2 Z2s ?_;unfold Wb at h;rw [cX] at h;apply iU h<;>intro h
 ·refine iL h fun h=>?_;refine iR h fun h=>?_;exact iB h
 refine iR h fun h=>?_;exact iB h
def Za (_N:Nat) (s_0:List UInt8) (c:Int):Option Int:=
 some (Qlh s_0 (UInt8.ofNat (Int.toNat c)) 0:Int)
theorem X7 {N} {s_0} {c} {r} (h:Za N s_0 c=some r):pU 220 [.str s_0,.int .u8 c] (.int .i64 r):=by
 refine Q2 Qy8 ?_;unfold Za at h;cases h;exact (.p _)
def Wj (N:Nat) (s_0:List UInt8) (c:Int):Option Int:=
 (Za N s_0 c).bind fun v1=>
 some v1
theorem Jf {N} {s_0} {c} {r} (h:Wj N s_0 c=some r):pU 175 [.str s_0,.int .u8 c] (.int .i64 r):=by
 refine Q2 Z0i ?_;unfold Wj at h;refine cP h X7 p2 fun v1 h=>?_;cases h;exact (.p _)
def Yd (N:Nat) (s_0:List UInt8):Nat->Nat->Option Int
 | 0,_=>none
 | n+1,pos13=>
  cond (Nat.blt pos13 s_0.length)
  (cond (Q6 .eql (((Q8q s_0 pos13).1:Nat):Int) 65533)
  (some ((pos13:Nat):Int))
  (Yd N s_0 n (pos13+(Q8q s_0 pos13).2)))
  (some (-1))
def Yb (N:Nat) (s_0:List UInt8) (r_1:Int) (v82:Int):Nat->Int->Option Int
 | 0,_=>none
 | n+1,j98=>
  cond (Q6 .lss j98 (((Utf8.encode r_1).data.toList).length:Int))
  ((idx s_0 (wrap .i64 ((wrap .i64 ((wrap .i64 ((((Utf8.encode r_1).data.toList).length:Int) - 1))+(wrap .i64 (v82+1)))) - j98))).bind fun b100=>
  (idx ((Utf8.encode r_1).data.toList) (wrap .i64 ((wrap .i64 ((((Utf8.encode r_1).data.toList).length:Int) - 1)) - j98))).bind fun b102=>
  cond (Q6 .neq (b100.toNat:Int) (b102.toNat:Int))
  (none)
  (Yb N s_0 r_1 v82 n (wrap .i64 (j98+1))))
  (some (wrap .i64 ((wrap .i64 ((wrap .i64 ((((Utf8.encode r_1).data.toList).length:Int) - 1))+(wrap .i64 (v82+1)))) - (wrap .i64 ((((Utf8.encode r_1).data.toList).length:Int) - 1)))))
def Yc (N:Nat) (s_0:List UInt8) (r_1:Int):Nat->Int->Option Int
 | 0,_=>none
 | n+1,j118=>
  cond (Q6 .lss j118 (((Utf8.encode r_1).data.toList).length:Int))
  ((idx s_0 (wrap .i64 ((wrap .i64 ((((Utf8.encode r_1).data.toList).length:Int) - 1)) - j118))).bind fun b120=>
  (idx ((Utf8.encode r_1).data.toList) (wrap .i64 ((wrap .i64 ((((Utf8.encode r_1).data.toList).length:Int) - 1)) - j118))).bind fun b122=>
  cond (Q6 .neq (b120.toNat:Int) (b122.toNat:Int))
  (none)
  (Yc N s_0 r_1 n (wrap .i64 (j118+1))))
  (some (wrap .i64 ((wrap .i64 ((((Utf8.encode r_1).data.toList).length:Int) - 1)) - (wrap .i64 ((((Utf8.encode r_1).data.toList).length:Int) - 1)))))
def Xe (N:Nat) (s_0:List UInt8) (r_1:Int):Nat->Option Int
 | 0=>none
 | n+1=>
  cond (Q6 .lss (wrap .i64 ((((Utf8.encode r_1).data.toList).length:Int) - 1)) (s_0.length:Int))
  ((idx s_0 (wrap .i64 ((((Utf8.encode r_1).data.toList).length:Int) - 1))).bind fun b73=>
  (idx ((Utf8.encode r_1).data.toList) (wrap .i64 ((((Utf8.encode r_1).data.toList).length:Int) - 1))).bind fun b75=>
  cond (Q6 .neq (b73.toNat:Int) (b75.toNat:Int))
  (cond (decide (0≤(wrap .i64 ((wrap .i64 ((((Utf8.encode r_1).data.toList).length:Int) - 1))+1)))) (cond (Nat.ble (wrap .i64 ((wrap .i64 ((((Utf8.encode r_1).data.toList).length:Int) - 1))+1)).toNat s_0.length&&Nat.ble s_0.length s_0.length) ((idx ((Utf8.encode r_1).data.toList) (wrap .i64 ((((Utf8.encode r_1).data.toList).length:Int) - 1))).bind fun b80=>
  (Wj N ((s_0.take s_0.length).drop ((wrap .i64 ((wrap .i64 ((((Utf8.encode r_1).data.toList).length:Int) - 1))+1)).toNat)) (b80.toNat:Int)).bind fun v82=>
  cond (Q6 .lss v82 0)
  (some (-1))
  (Yb N s_0 r_1 v82 N 1)) none) none)
  (Yc N s_0 r_1 N 1))
  (some (-1))
def Xc (N:Nat) (s_0:List UInt8) (r_1:Int) (s2:Bool):Option Int:=
 cond s2
 ((Wj N s_0 (wrap .u8 r_1)).bind fun v5=>
 some v5)
 (cond (Q6 .eql r_1 65533)
 (Yd N s_0 N 0)
 ((Wb N r_1).bind fun v16=>
 cond (!v16)
 (some (-1))
 (Xe N s_0 r_1 N)))
def Uf (N:Nat) (s_0:List UInt8) (r_1:Int):Option Int:=
 cond (Q6 .leq 0 r_1)
 (Xc N s_0 r_1 (Q6 .lss r_1 128))
 (Xc N s_0 r_1 false)
theorem Q35 {N} {s_0} {r_1} {r} (h:Uf N s_0 r_1=some r):pU 131 [.str s_0,.int .i32 r_1] (.int .i64 r):=by
 refine Q2 Qzm ?_;unfold Uf at h;rw [cX] at h;refine jrH (r:=r) (σ:=Bool) (fun s2=>(iS s_0 :: .p (.int .i32 r_1)::a16 (a16 (a16 (a16 (a16 (a16 (a16 (a16 (a16 (a8 (a4 (a2 (.p (.bool s2)::a16 (a8 (a2 ([]))))))))))))))):List AV)) (fun s2=>Xc N s_0 r_1 s2) ?_ ?_
 ·apply iU h<;>intro h
  ·show Exists _;exact ⟨((Qme .lss r_1 128)),h,(fun i=>i),Z2⟩
  show Exists _;exact ⟨(false),h,(fun i=>i),Z2⟩
 rintro s2 h
 unfold Xc at h;rw [cX] at h;apply iU h<;>intro h
 ·refine cP h Jf p2 fun v5 h=>?_;cases h;exact (.p _)
 apply iU h<;>intro h
 ·refine lpA (τ:=Nat) (fun _=>(a16 (a16 (a16 (a16 (a16 (a16 (a16 (a16 (a16 (a16 (a8 (a4 (a2 (.any :: .ptr 0 0::a8 (a2 (.any :: []))))))))))))))):List AV)) (fun pos13=>(.strIter s_0 pos13 :: []:List AObj)) (fun n1 pos13=>Yd N s_0 n1 pos13) (0) h fun n1 pos13 h=>?_
  first | rw [Yd] at h | simp only [Yd] at h
  rw [cX] at h;refine iR h fun h=>?_;refine iL h fun h=>?_;show Exists _;exact ⟨(n1,(pos13+(Q8q s_0 pos13).2)),h,Ll _,(fun i=>i),Z2⟩
 refine cP h Q0n p1 fun v16 h=>?_;refine iL h fun h=>?_;refine lpH (τ:=Unit) (fun _=>(iS s_0::a4 (a2 (iS ((Utf8.encode r_1).data.toList) :: .p (.int .i64 (wrap .i64 ((((Utf8.encode r_1).data.toList).length:Int) - 1))) :: .p (.int .i64 (wrap .i64 ((((Utf8.encode r_1).data.toList).length:Int) - 1)))::a16 (a16 (a16 (a16 (a16 (a16 (a16 (a16 (a16 (a16 (a16 (.any :: []))))))))))))):List AV)) (fun n2 ⟨⟩=>Xe N s_0 r_1 n2) () h fun n2 ⟨⟩ h=>?_
 first | rw [Xe] at h | simp only [Xe] at h
 rw [cX] at h;refine iR h fun h=>?_;refine Qa ?_;refine xB h fun b73 h=>?_;refine xB h fun b75 h=>?_;apply iU h<;>intro h
 ·refine Qa ?_;refine kU h fun h=>?_;refine kU h fun h=>?_;refine xB h fun b80 h=>?_;refine cD h Jf p2 fun v82 h=>?_;refine iL h fun h=>?_;refine lpH (τ:=Int) (fun j98=>(iS s_0::a4 (a2 (iS ((Utf8.encode r_1).data.toList) :: .p (.int .i64 (wrap .i64 ((((Utf8.encode r_1).data.toList).length:Int) - 1))) :: .p (.int .i64 (wrap .i64 ((wrap .i64 ((((Utf8.encode r_1).data.toList).length:Int) - 1))+(wrap .i64 (v82+1))))) :: .any :: .any::iI j98::a16 (a16 (a16 (a16 (a16 (a16 (a16 (a16 (a16 (a16 (a8 (a4 (a2 ([]))))))))))))))):List AV)) (fun n3 j98=>Yb N s_0 r_1 v82 n3 j98) (1) h fun n3 j98 h=>?_
  first | rw [Yb] at h | simp only [Yb] at h
  rw [cX] at h;refine iR h fun h=>?_;refine Qa ?_;refine xB h fun b100 h=>?_;refine xB h fun b102 h=>?_;apply iU h<;>intro h
  ·first | (cases h;done) | (simp [Qah] at h;done)
  show Exists _;exact ⟨(n3,(wrap .i64 (j98+1))),h,Ll _,(fun i=>i),Z2⟩
 refine lpH (τ:=Int) (fun j118=>(iS s_0::a4 (a2 (iS ((Utf8.encode r_1).data.toList) :: .p (.int .i64 (wrap .i64 ((((Utf8.encode r_1).data.toList).length:Int) - 1))) :: .p (.int .i64 (wrap .i64 ((((Utf8.encode r_1).data.toList).length:Int) - 1))) :: .any :: .any::iI j118::a16 (a16 (a16 (a16 (a16 (a16 (a16 (a16 (a16 (a16 (a8 (a4 (a2 ([]))))))))))))))):List AV)) (fun n4 j118=>Yc N s_0 r_1 n4 j118) (1) h fun n4 j118 h=>?_
 first | rw [Yc] at h | simp only [Yc] at h
 rw [cX] at h;refine iR h fun h=>?_;refine Qa ?_;refine xB h fun b120 h=>?_;refine xB h fun b122 h=>?_;apply iU h<;>intro h
 ·first | (cases h;done) | (simp [Qah] at h;done)
 show Exists _;exact ⟨(n4,(wrap .i64 (j118+1))),h,Ll _,(fun i=>i),Z2⟩
def Xa (_N:Nat) (bufLen:Int):Option Bool:=
 some (Q6 .gtr bufLen 8)
theorem Gg {N} {bufLen} {r} (h:Xa N bufLen=some r):pU 132 [.int .i64 bufLen] (.bool r):=by
 refine Q2 Qvd ?_;unfold Xa at h;rw [cX] at h;cases h;exact (.p _)
def Zn (N:Nat) (s_0:List UInt8):Nat->Int->Option Int
 | 0,_=>none
 | n+1,i20=>
  cond (Q6 .lss i20 (s_0.length:Int))
  ((idx s_0 i20).bind fun b22=>
  cond (decide (0≤(b22.toNat:Int))&&decide ((b22.toNat:Int)<((256:Nat):Int))) ((idx ([false,false,false,false,false,false,false,false,false,false,false,false,false,false,false,false,false,false,false,false,false,false,false,false,false,false,false,false,false,false,false,false,false,false,false,true,false,false,false,false,false,false,false,true,false,false,false,false,false,false,false,false,false,false,false,false,false,false,false,false,false,false,false,false,false,false,false,false,false,false,false,false,false,false,false,false,false,false,false,false,false,false,false,false,false,false,false,false,false,false,false,false,false,false,false,false,false,false,false,false,false,false,false,false,false,false,false,false,false,false,false,false,false,false,false,false,false,false,false,false,false,false,false,false,false,false,false,false,false,false,false,false,false,false,false,false,false,false,false,false,false,false,false,false,false,false,false,false,false,false,false,false,false,false,false,false,false,false,false,false,false,false,false,false,false,false,false,false,false,false,false,false,false,false,false,false,false,false,false,false,false,false,false,false,false,false,false,false,false,false,false,false,false,false,false,false,false,false,false,false,false,false,false,false,false,false,false,false,false,false,false,false,false,false,false,false,false,false,false,false,false,false,false,false,false,false,false,false,false,false,false,false,false,false,false,false,false,false,false,false,false,false,false,false,false,false,false,false,false,false,false,false,false,false,false,false]:List Bool) (b22.toNat:Int)).bind fun y24=>
  cond y24
  (some i20)
  (Zn N s_0 n (wrap .i64 (i20+1)))) none)
  (some (-1))
def Zo (N:Nat) (s_0:List UInt8):Nat->Nat->Option Int
 | 0,_=>none
 | n+1,pos37=>
  cond (Nat.blt pos37 s_0.length)
  ((Uf N [43,35] (((Q8q s_0 pos37).1:Nat):Int)).bind fun v39=>
  cond (Q6 .geq v39 0)
  (some ((pos37:Nat):Int))
  (Zo N s_0 n (pos37+(Q8q s_0 pos37).2)))
  (some (-1))
def Va (N:Nat) (s_0:List UInt8):Option Int:=
 cond (Q31 .eql [43,35] [])
 (some (-1))
 ((Xa N (s_0.length:Int)).bind fun v2=>
 cond v2
 (Zn N s_0 N 0)
 (Zo N s_0 N 0))
theorem Q23 {N} {s_0} {r} (h:Va N s_0=some r):pU 93 [.str s_0,.str [43,35]] (.int .i64 r):=by
 refine Q2 k93 ?_;unfold Va at h;rw [cY] at h;refine iL h fun h=>?_;refine dF ?_;refine cP h Gg p1 fun v2 h=>?_;apply iU h<;>intro h
 ·refine Q3 Qxp ?_;refine Qk 4 ?_;refine dT ?_;refine dF ?_;refine dT ?_;refine dF ?_;refine dF ?_;refine lpH (τ:=Int) (fun i20=>(iS s_0::a4 (.any :: .ptr 1 0 :: .any::iI i20::a16 (a16 (a8 (a4 (a2 ([])))))):List AV)) (fun n0 i20=>Zn N s_0 n0 i20) (0) h fun n0 i20 h=>?_
  first | rw [Zn] at h | simp only [Zn] at h
  rw [cX] at h;refine iR h fun h=>?_;refine xB h fun b22 h=>?_;refine Q3 Qzn ?_;refine kU h fun h=>?_;obtain ⟨y24,hy25,h⟩:=Vd h
  refine Jo (c:=cB) (e:=1) (fun _=>rfl) hy25 (off:=0) (by decide) (by first | omega | (simp only [Q0w,orI,Qfs,V9,Q37,Qa7];omega)) ?_
  refine iL h fun h=>?_;show Exists _;exact ⟨(n0,(wrap .i64 (i20+1))),h,Ll _,(fun i=>i),Z2⟩
 refine lpA (τ:=Nat) (fun _=>(.any :: .p (.str [43,35])::a16 (a16 (a8 (a2 (.any :: .ptr 0 0::a8 (.any :: []))))):List AV)) (fun pos37=>(.strIter s_0 pos37 :: []:List AObj)) (fun n1 pos37=>Zo N s_0 n1 pos37) (0) h fun n1 pos37 h=>?_
 first | rw [Zo] at h | simp only [Zo] at h
 rw [cX] at h;refine iR h fun h=>?_;refine cP h Q35 p2 fun v39 h=>?_;refine iL h fun h=>?_;show Exists _;exact ⟨(n1,(pos37+(Q8q s_0 pos37).2)),h,Ll _,(fun i=>i),Z2⟩
def Zt (N:Nat) (s_0:List UInt8):Option Bool:=
 (Va N s_0).bind fun v1=>
 some (Q6 .geq v1 0)
theorem X6 {N} {s_0} {r} (h:Zt N s_0=some r):pU 55 [.str s_0,.str [43,35]] (.bool r):=by
 refine Q2 k55 ?_;unfold Zt at h;rw [cX] at h;refine cP h Q23 p2 fun v1 h=>?_;cases h;exact (.p _)
def Y6 (N:Nat) (s_0:List UInt8):Option Bool:=
 (Q15 N s_0).bind fun v1=>
 cond v1
 ((Zt N s_0).bind fun v4=>
 some (!v4))
 (some false)
theorem Zi {N} {s_0} {r} (h:Y6 N s_0=some r):pU 28 [.str s_0] (.bool r):=by
 refine Q2 k28 ?_;unfold Y6 at h;refine cP h Q3j p1 fun v1 h=>?_;refine iR h fun h=>?_;refine cP h X6 p2 fun v4 h=>?_;cases h;exact (.p _)
def Q3z (N:Nat) (R:Reg) (c n:List UInt8) (id:Int):Option (Int×Reg):=(Y6 N n).bind fun b=>some (Qt6 b R c n id)
theorem Q6b {N R c n id r} (h:Q3z N R c n id=some r):Ug Tryz.prog G1 16 R [.str c,.str n,.int .i64 id] (.int .i64 r.1) r.2:=by
 obtain ⟨b,hb,h⟩:=Vd h;cases h;exact Qr5 (Zi hb)
def G2 (N:Nat) (R:Reg) (c n:List UInt8):Option ((Int×Bool×Int)×Reg):=(Y6 N n).bind fun b=>if WR R then some (Qrb b R c n) else none
theorem Jn {N R c n r} (h:G2 N R c n=some r):Ug Tryz.prog G1 15 R [.str c,.str n] (.tuple [.int .i64 r.1.1,.bool r.1.2.1,.int .i64 r.1.2.2]) r.2:=by
 obtain ⟨b,hb,h⟩:=Vd h;split at h
 ·cases h;exact Qpx (by assumption) (Zi hb)
 cases h
def Q1b (_N:Nat) (l:Zv):Option Bool:=
 cond (Q6 .geq l.MaxPacket 16)
 (cond (Q6 .leq l.MaxPacket 1048576)
 (cond (Q6 .geq l.MaxDepth 0)
 (some (Q6 .leq l.MaxDepth 32))
 (some false))
 (some false))
 (some false)
theorem Q7e {N} {l} {r} (h:Q1b N l=some r):pU 36 [.agg (Zv.cells l)] (.bool r):=by
 refine Q2 k36 ?_;unfold Q1b at h;rw [cX] at h;refine iR h fun h=>?_;refine iR h fun h=>?_;exact iB h
def Jl (_N:Nat) (h_0:V5):Option Bool:=
 cond (Q6 .geq h_0.Radius 0)
 (cond (Q6 .leq h_0.Radius 3)
 (cond (Q6 .geq (h_0.Node.length:Int) 1)
 (some (Q6 .leq (h_0.Node.length:Int) 32))
 (some false))
 (some false))
 (some false)
theorem Q4t {N} {h_0} {r} (h:Jl N h_0=some r):pU 39 [.agg (V5.cells h_0)] (.bool r):=by
 refine Q2 k39 ?_;unfold Jl at h;rw [cX] at h;refine iR h fun h=>?_;refine iR h fun h=>?_;exact iB h
def Gu (N:Nat) (h_0:V5):Option Bool:=
 (Jl N h_0).bind fun v1=>
 some (!v1)
theorem Q59 {N} {h_0} {r} (h:Gu N h_0=some r):pU 38 [.agg (V5.cells h_0)] (.bool r):=by
 refine Q2 k38 ?_;unfold Gu at h;refine cP h Q4t (.cons q2 .nil) fun v1 h=>?_;cases h;exact (.p _)
def G0 (_N:Nat) (kind:Int):Option Bool:=
 cond (Q6 .eql kind 3)
 (some false)
 (cond (Q6 .eql kind 17)
 (some false)
 (cond (Q6 .eql kind 25)
 (some false)
 (cond (Q6 .eql kind 254)
 (some true)
 (cond (Q6 .geq kind 0)
 (some (Q6 .leq kind 29))
 (some false)))))
theorem Q1r {N} {kind} {r} (h:G0 N kind=some r):pU 80 [.int .i64 kind] (.bool r):=by
 refine Q2 k80 ?_;unfold G0 at h;rw [cX] at h;refine ifO h (fun hc1 h=>?_) (fun hc1 h=>?_)
 ·refine ifT hc1 ?_;cases h;exact (.p _)
 refine ifO h (fun hc2 h=>?_) (fun hc2 h=>?_)
 ·refine ifT hc2 ?_;cases h;exact (.p _)
 refine iL h fun h=>?_;refine iL h fun h=>?_;exact iB h
def Q0e (N:Nat) (kind:Int):Option Bool:=
 (G0 N kind).bind fun v1=>
 cond v1
 (some (Q6 .neq kind 254))
 (some false)
theorem Q6i {N} {kind} {r} (h:Q0e N kind=some r):pU 42 [.int .i64 kind] (.bool r):=by
 refine Q2 k42 ?_;unfold Q0e at h;rw [cX] at h;refine cP h Q1r p1 fun v1 h=>?_;exact iB h
def Q02 (_N:Nat) (f:Qp):Option (Int×Int):=
 cond (Q6 .lss f.QoS (-1))
 (some (0,7))
 (cond (Q6 .gtr f.QoS 2)
 (some (0,7))
 (cond (Q6 .lss f.Type' 0)
 (some (0,7))
 (cond (Q6 .gtr f.Type' 2)
 (some (0,7))
 (cond f.Clean
 (cond f.Will
 (cond f.Retain
 (cond f.Dup
 (some ((orI .i64 (orI .i64 (orI .i64 (orI .i64 (orI .i64 f.Type' 4) 8) 16) 128) (wrap .i64 ((Q0w .i64 f.QoS 3) * 32))),0))
 (some ((orI .i64 (orI .i64 (orI .i64 (orI .i64 f.Type' 4) 8) 16) (wrap .i64 ((Q0w .i64 f.QoS 3) * 32))),0)))
 (cond f.Dup
 (some ((orI .i64 (orI .i64 (orI .i64 (orI .i64 f.Type' 4) 8) 128) (wrap .i64 ((Q0w .i64 f.QoS 3) * 32))),0))
 (some ((orI .i64 (orI .i64 (orI .i64 f.Type' 4) 8) (wrap .i64 ((Q0w .i64 f.QoS 3) * 32))),0))))
 (cond f.Retain
 (cond f.Dup
 (some ((orI .i64 (orI .i64 (orI .i64 (orI .i64 f.Type' 4) 16) 128) (wrap .i64 ((Q0w .i64 f.QoS 3) * 32))),0))
 (some ((orI .i64 (orI .i64 (orI .i64 f.Type' 4) 16) (wrap .i64 ((Q0w .i64 f.QoS 3) * 32))),0)))
 (cond f.Dup
 (some ((orI .i64 (orI .i64 (orI .i64 f.Type' 4) 128) (wrap .i64 ((Q0w .i64 f.QoS 3) * 32))),0))
 (some ((orI .i64 (orI .i64 f.Type' 4) (wrap .i64 ((Q0w .i64 f.QoS 3) * 32))),0)))))
 (cond f.Will
 (cond f.Retain
 (cond f.Dup
 (some ((orI .i64 (orI .i64 (orI .i64 (orI .i64 f.Type' 8) 16) 128) (wrap .i64 ((Q0w .i64 f.QoS 3) * 32))),0))
 (some ((orI .i64 (orI .i64 (orI .i64 f.Type' 8) 16) (wrap .i64 ((Q0w .i64 f.QoS 3) * 32))),0)))
 (cond f.Dup
 (some ((orI .i64 (orI .i64 (orI .i64 f.Type' 8) 128) (wrap .i64 ((Q0w .i64 f.QoS 3) * 32))),0))
 (some ((orI .i64 (orI .i64 f.Type' 8) (wrap .i64 ((Q0w .i64 f.QoS 3) * 32))),0))))
 (cond f.Retain
 (cond f.Dup
 (some ((orI .i64 (orI .i64 (orI .i64 f.Type' 16) 128) (wrap .i64 ((Q0w .i64 f.QoS 3) * 32))),0))
 (some ((orI .i64 (orI .i64 f.Type' 16) (wrap .i64 ((Q0w .i64 f.QoS 3) * 32))),0)))
 (cond f.Dup
 (some ((orI .i64 (orI .i64 f.Type' 128) (wrap .i64 ((Q0w .i64 f.QoS 3) * 32))),0))
 (some ((orI .i64 f.Type' (wrap .i64 ((Q0w .i64 f.QoS 3) * 32))),0)))))))))
theorem Q34 {N} {f} {r} (h:Q02 N f=some r):pU 81 [.agg (Qp.cells f)] (.tuple [.int .i64 r.1,.int .i64 r.2]):=by
 refine Q2 k81 ?_;unfold Q02 at h;rw [cX] at h;refine iL2 h fun h=>?_;refine iL2 h fun h=>?_;refine iL2 h fun h=>?_;refine iL2 h fun h=>?_;refine Q3 Qfv ?_;apply iU h<;>intro h
 ·refine Q3 Qfv ?_;apply iU h<;>intro h
  ·refine Q3 Qfv ?_;apply iU h<;>intro h
   ·refine Q3 Qfv ?_;exact iB2 h
   refine Q3 Qfv ?_;exact iB2 h
  refine Q3 Qfv ?_;apply iU h<;>intro h
  ·refine Q3 Qfv ?_;exact iB2 h
  refine Q3 Qfv ?_;exact iB2 h
 refine Q3 Qfv ?_;apply iU h<;>intro h
 ·refine Q3 Qfv ?_;apply iU h<;>intro h
  ·refine Q3 Qfv ?_;exact iB2 h
  refine Q3 Qfv ?_;exact iB2 h
 refine Q3 Qfv ?_;apply iU h<;>intro h
 ·refine Q3 Qfv ?_;exact iB2 h
 refine Q3 Qfv ?_;exact iB2 h
def Q2p (_N:Nat) (kind:Int):Option (Qp):=
 cond (Q6 .eql kind 4)
 (some (⟨false,0,false,true,true,0⟩:Qp))
 (cond (Q6 .eql kind 7)
 (some (⟨false,1,true,false,false,0⟩:Qp))
 (cond (Q6 .eql kind 26)
 (some (⟨false,1,true,false,false,0⟩:Qp))
 (cond (Q6 .eql kind 19)
 (some (⟨false,1,false,false,false,0⟩:Qp))
 (cond (Q6 .eql kind 12)
 (some (⟨true,1,true,false,false,1⟩:Qp))
 (cond (Q6 .eql kind 18)
 (some (⟨true,1,false,false,false,1⟩:Qp))
 (cond (Q6 .eql kind 20)
 (some (⟨false,0,false,false,false,1⟩:Qp))
 (some (⟨false,0,false,false,false,0⟩:Qp))))))))
theorem Q8l {N} {kind} {r} (h:Q2p N kind=some r):pU 82 [.int .i64 kind] (.agg (Qp.cells r)):=by
 refine Q2 k82 ?_;unfold Q2p at h;rw [cX] at h;apply iU h<;>intro h
 ·show Frz _ _ _ _;obtain rfl:=Qb h;exact (Ar (.cons (.p _) p5))
 refine ifO h (fun hc2 h=>?_) (fun hc2 h=>?_)
 ·refine ifT hc2 ?_;show Frz _ _ _ _;obtain rfl:=Qb h;exact (Ar (.cons (.p _) p5))
 apply iU h<;>intro h
 ·show Frz _ _ _ _;obtain rfl:=Qb h;exact (Ar (.cons (.p _) p5))
 apply iU h<;>intro h
 ·show Frz _ _ _ _;obtain rfl:=Qb h;exact (Ar (.cons (.p _) p5))
 apply iU h<;>intro h
 ·show Frz _ _ _ _;obtain rfl:=Qb h;exact (Ar (.cons (.p _) p5))
 apply iU h<;>intro h
 ·show Frz _ _ _ _;obtain rfl:=Qb h;exact (Ar (.cons (.p _) p5))
 apply iU h<;>intro h
 ·show Frz _ _ _ _;obtain rfl:=Qb h;exact (Ar (.cons (.p _) p5))
 show Frz _ _ _ _;obtain rfl:=Qb h;exact (Ar (.cons (.p _) p5))
def Uu (_N:Nat) (c15:Bool) (c18:Int) (c21:Bool) (c24:Bool) (c27:Bool) (c30:Int):Option Bool:=
 some (((c15:Bool) == false)&&(((c18:Int) == 0)&&(((c21:Bool) == false)&&(((c24:Bool) == false)&&(((c27:Bool) == false)&&(((c30:Int) == 0)&&true))))))
def J6 (N:Nat) (f:Qp) (v12:Qp) (c15:Bool) (c18:Int) (c21:Bool) (c24:Bool) (c27:Bool):Option Bool:=
 cond (Q6 .eql v12.Type' 1)
 (Uu N c15 c18 c21 c24 c27 0)
 (Uu N c15 c18 c21 c24 c27 f.Type')
def Ur (N:Nat) (f:Qp) (v12:Qp) (c15:Bool) (c18:Int) (c21:Bool) (c24:Bool):Option Bool:=
 cond v12.Clean
 (J6 N f v12 c15 c18 c21 c24 false)
 (J6 N f v12 c15 c18 c21 c24 f.Clean)
def J4 (N:Nat) (f:Qp) (v12:Qp) (c15:Bool) (c18:Int) (c21:Bool):Option Bool:=
 cond v12.Will
 (Ur N f v12 c15 c18 c21 false)
 (Ur N f v12 c15 c18 c21 f.Will)
def Ux (N:Nat) (f:Qp) (v12:Qp) (c15:Bool) (c18:Int):Option Bool:=
 cond v12.Retain
 (J4 N f v12 c15 c18 false)
 (J4 N f v12 c15 c18 f.Retain)
def Us (N:Nat) (f:Qp) (v12:Qp) (c15:Bool):Option Bool:=
 cond (Q6 .eql v12.QoS 1)
 (Ux N f v12 c15 0)
 (Ux N f v12 c15 f.QoS)
def Uw (N:Nat) (kind:Int) (f:Qp) (s9:Bool):Option Bool:=
 cond s9
 (some false)
 ((Q2p N kind).bind fun v12=>
 cond v12.Dup
 (Us N f v12 false)
 (Us N f v12 f.Dup))
def Q40 (N:Nat) (kind:Int) (f:Qp):Option Bool:=
 (Q02 N f).bind fun v1=>
 cond (Q6 .neq v1.2 0)
 (some false)
 (cond (Q6 .lss f.QoS 0)
 (Uw N kind f (Q6 .neq kind 12))
 (Uw N kind f false))
theorem Qa2 {N} {kind} {f} {r} (h:Q40 N kind f=some r):pU 43 [.int .i64 kind,.agg (Qp.cells f)] (.bool r):=by
 refine Q2 k43 ?_;unfold Q40 at h;rw [cX] at h;refine cP h Q34 (.cons (Ar (.cons (.p _) p5)) .nil) fun v1 h=>?_;refine iL h fun h=>?_;refine Qdt ?_;refine jrH (r:=r) (σ:=Bool) (fun s9=>(iI kind :: .any :: .any :: .ptr 0 0::a16 (.any :: .p (.bool s9)::a16 (a8 (.any :: []))):List AV)) (fun s9=>Uw N kind f s9) ?_ ?_
 ·apply iU h<;>intro h
  ·show Exists _;exact ⟨((Qme .neq kind 12)),h,(fun i=>i),Z2⟩
  show Exists _;exact ⟨(false),h,(fun i=>i),Z2⟩
 rintro s9 h
 unfold Uw at h;refine iL h fun h=>?_;refine cP h Q8l p1 fun v12 h=>?_;refine jrA (r:=r) (σ:=Bool) (fun _=>(a2 (.any :: .ptr 0 0::a2 (.any :: .ptr 1 0::a16 (a16 (a4 (a2 (.any :: [])))))):List AV)) (fun c15=>(.cells (.p (.bool c15)::iI f.QoS :: .p (.bool f.Retain) :: .p (.bool f.Will) :: .p (.bool f.Clean)::iI f.Type' :: []) :: .cells (Q4a v12 ([])) :: []:List AObj)) (fun c15=>Us N f v12 c15) ?_ ?_
 ·apply iU h<;>intro h
  ·show Exists _;exact ⟨(false),h,(fun i=>i),Z2⟩
  show Exists _;exact ⟨(f.Dup),h,(fun i=>i),Z2⟩
 rintro c15 h
 unfold Us at h;rw [cX] at h;refine jrA (r:=r) (σ:=Int) (fun _=>(a2 (.any :: .ptr 0 0::a2 (.any :: .ptr 1 0::a16 (a16 (a4 (a2 (.any :: [])))))):List AV)) (fun c18=>(.cells (.p (.bool c15)::iI c18 :: .p (.bool f.Retain) :: .p (.bool f.Will) :: .p (.bool f.Clean)::iI f.Type' :: []) :: .cells (Q4a v12 ([])) :: []:List AObj)) (fun c18=>Ux N f v12 c15 c18) ?_ ?_
 ·apply iU h<;>intro h
  ·show Exists _;exact ⟨(0),h,(fun i=>i),Z2⟩
  show Exists _;exact ⟨(f.QoS),h,(fun i=>i),Z2⟩
 rintro c18 h
 unfold Ux at h;refine jrA (r:=r) (σ:=Bool) (fun _=>(a2 (.any :: .ptr 0 0::a2 (.any :: .ptr 1 0::a16 (a16 (a4 (a2 (.any :: [])))))):List AV)) (fun c21=>(.cells (.p (.bool c15)::iI c18 :: .p (.bool c21) :: .p (.bool f.Will) :: .p (.bool f.Clean)::iI f.Type' :: []) :: .cells (Q4a v12 ([])) :: []:List AObj)) (fun c21=>J4 N f v12 c15 c18 c21) ?_ ?_
 ·apply iU h<;>intro h
  ·show Exists _;exact ⟨(false),h,(fun i=>i),Z2⟩
  show Exists _;exact ⟨(f.Retain),h,(fun i=>i),Z2⟩
 rintro c21 h
 unfold J4 at h;refine jrA (r:=r) (σ:=Bool) (fun _=>(a2 (.any :: .ptr 0 0::a2 (.any :: .ptr 1 0::a16 (a16 (a4 (a2 (.any :: [])))))):List AV)) (fun c24=>(.cells (.p (.bool c15)::iI c18 :: .p (.bool c21) :: .p (.bool c24) :: .p (.bool f.Clean)::iI f.Type' :: []) :: .cells (Q4a v12 ([])) :: []:List AObj)) (fun c24=>Ur N f v12 c15 c18 c21 c24) ?_ ?_
 ·apply iU h<;>intro h
  ·show Exists _;exact ⟨(false),h,(fun i=>i),Z2⟩
  show Exists _;exact ⟨(f.Will),h,(fun i=>i),Z2⟩
 rintro c24 h
 unfold Ur at h;refine jrA (r:=r) (σ:=Bool) (fun _=>(a2 (.any :: .ptr 0 0::a2 (.any :: .ptr 1 0::a16 (a16 (a4 (a2 (.any :: [])))))):List AV)) (fun c27=>(.cells (.p (.bool c15)::iI c18 :: .p (.bool c21) :: .p (.bool c24) :: .p (.bool c27)::iI f.Type' :: []) :: .cells (Q4a v12 ([])) :: []:List AObj)) (fun c27=>J6 N f v12 c15 c18 c21 c24 c27) ?_ ?_
 ·apply iU h<;>intro h
  ·show Exists _;exact ⟨(false),h,(fun i=>i),Z2⟩
  show Exists _;exact ⟨(f.Clean),h,(fun i=>i),Z2⟩
 rintro c27 h
 unfold J6 at h;rw [cX] at h;refine jrA (r:=r) (σ:=Int) (fun _=>(a2 (.any :: .ptr 0 0::a16 (a16 (a8 (a2 (.any :: []))))):List AV)) (fun c30=>(.cells (.p (.bool c15)::iI c18 :: .p (.bool c21) :: .p (.bool c24) :: .p (.bool c27)::iI c30 :: []) :: .cells (Q4a v12 ([])) :: []:List AObj)) (fun c30=>Uu N c15 c18 c21 c24 c27 c30) ?_ ?_
 ·apply iU h<;>intro h
  ·show Exists _;exact ⟨(0),h,(fun i=>i),Z2⟩
  show Exists _;exact ⟨(f.Type'),h,(fun i=>i),Z2⟩
 rintro c30 h
 unfold Uu at h;cases h;exact (.p _)
def Q49 (_N:Nat) (kind:Int):Option Bool:=
 cond (Q6 .eql kind 7)
 (some true)
 (some (Q6 .eql kind 26))
theorem Q9u {N} {kind} {r} (h:Q49 N kind=some r):pU 44 [.int .i64 kind] (.bool r):=by
 refine Q2 k44 ?_;unfold Q49 at h;rw [cX] at h;exact iB h
def Vz (N:Nat) (s_0:List UInt8):Nat->Int->Int->Option Int
 | 0,_,_=>none
 | n+1,n12,s13=>
  cond (Q6 .lss s13 (((s_0.take s_0.length).drop ((wrap .i64 ((s_0.length:Int) - 8)).toNat)).length:Int))
  ((idx ((s_0.take s_0.length).drop ((wrap .i64 ((s_0.length:Int) - 8)).toNat)) s13).bind fun b15=>
  Vz N s_0 n (orI .u64 (Q37 .u64 n12 8) (wrap .u64 (b15.toNat:Int))) (wrap .i64 (s13+1)))
  (some n12)
def U5 (N:Nat) (s_0:List UInt8):Nat->Int->Int->Option Int
 | 0,_,_=>none
 | n+1,n25,s26=>
  cond (Q6 .lss s26 (s_0.length:Int))
  ((idx s_0 s26).bind fun b28=>
  U5 N s_0 n (orI .u64 (Q37 .u64 n25 8) (wrap .u64 (b28.toNat:Int))) (wrap .i64 (s26+1)))
  (some n25)
def X5 (N:Nat) (s_0:List UInt8):Option Int:=
 cond (Q6 .gtr (s_0.length:Int) 8)
 (cond (decide (0≤(wrap .i64 ((s_0.length:Int) - 8)))) (cond (Nat.ble (wrap .i64 ((s_0.length:Int) - 8)).toNat s_0.length&&Nat.ble s_0.length s_0.length) (Vz N s_0 N 0 0) none) none)
 (U5 N s_0 N 0 0)
theorem Yk {N} {s_0} {r} (h:X5 N s_0=some r):pU 135 [.str s_0] (.int .u64 r):=by
 refine Q2 Z07 ?_;unfold X5 at h;rw [cX] at h;apply iU h<;>intro h
 ·refine kU h fun h=>?_;refine kU h fun h=>?_;refine lpH (τ:=Int×Int) (fun ⟨n12,s13⟩=>(.p (.str ((s_0.take s_0.length).drop ((wrap .i64 ((s_0.length:Int) - 8)).toNat))) :: .any :: .any::iW n12::a8 (a2 (.p (.int .i64 (((s_0.take s_0.length).drop ((wrap .i64 ((s_0.length:Int) - 8)).toNat)).length:Int))::iI s13::a8 (a2 (.any :: [])))):List AV)) (fun n0 ⟨n12,s13⟩=>Vz N s_0 n0 n12 s13) (0,0) h fun n0 ⟨n12,s13⟩ h=>?_
  first | rw [Vz] at h | simp only [Vz] at h
  rw [cX] at h;refine iR h fun h=>?_;refine xB h fun b15 h=>?_;show Exists _;exact ⟨(n0,(orI .u64 (Q37 .u64 n12 8) (wrap .u64 (b15.toNat:Int))),(wrap .i64 (s13+1))),h,Ll _,(fun i=>i),Z2⟩
 refine lpH (τ:=Int×Int) (fun ⟨n25,s26⟩=>(iS s_0 :: .any :: .any::iW n25::a8 (a2 (iI (s_0.length:Int)::iI s26::a8 (a2 (.any :: [])))):List AV)) (fun n1 ⟨n25,s26⟩=>U5 N s_0 n1 n25 s26) (0,0) h fun n1 ⟨n25,s26⟩ h=>?_
 first | rw [U5] at h | simp only [U5] at h
 rw [cX] at h;refine iR h fun h=>?_;refine xB h fun b28 h=>?_;show Exists _;exact ⟨(n1,(orI .u64 (Q37 .u64 n25 8) (wrap .u64 (b28.toNat:Int))),(wrap .i64 (s26+1))),h,Ll _,(fun i=>i),Z2⟩
def Wr (N:Nat) (n_0:Int) (size:Int):Nat->Int->(List Int)->Option (List UInt8)
 | 0,_,_=>none
 | n+1,s14,l15=>
  cond (Q6 .lss s14 (ifB (decide (16<size)) 16 size))
  (cond (Q6 .lss s14 8)
  (cond (decide (0≤(wrap .u64 (wrap .i64 (8 * s14))))) ((idx (l15:List Int) (wrap .i64 ((wrap .i64 ((ifB (decide (16<size)) 16 size) - 1)) - s14))).bind fun y19=>
  Wr N n_0 size n (wrap .i64 (s14+1)) ((l15:List Int).set (Int.toNat (wrap .i64 ((wrap .i64 ((ifB (decide (16<size)) 16 size) - 1)) - s14))) (wrap .u8 (Qa7 .u64 n_0 (wrap .u64 (wrap .i64 (8 * s14))))))) none)
  (Wr N n_0 size n (wrap .i64 (s14+1)) l15))
  (some (l15.map fun n=>UInt8.ofNat n.toNat))
def Qs (N:Nat) (n_0:Int) (size:Int):Option (List UInt8):=
 cond (Q6 .leq size 0)
 (some [])
 (cond (decide (0≤(ifB (decide (16<size)) 16 size))&&decide ((ifB (decide (16<size)) 16 size)≤(ifB (decide (16<size)) 16 size))&&decide ((ifB (decide (16<size)) 16 size) * 1≤1099511627776)) (Wr N n_0 size N 0 (List.replicate ((ifB (decide (16<size)) 16 size):Int).toNat (0:Int))) none)
theorem Qm {N} {n_0} {size} {r} (h:Qs N n_0 size=some r):pU 79 [.int .u64 n_0,.int .i64 size] (.str r):=by
 refine Q2 k79 ?_;unfold Qs at h;rw [cX] at h;refine iL h fun h=>?_;refine kU h fun h=>?_;refine Qqc (c:=(cI .u8)) (0:Int) rfl ?_;refine lpC (τ:=Int×(List Int)) (fun ⟨s14,l15⟩=>(iW n_0 :: .p (.int .i64 (ifB (decide (16<size)) 16 size))::a2 (.any :: .slice 1 1 0 l15.length::a4 (a2 (.any :: .p (.int .i64 (ifB (decide (16<size)) 16 size))::iI s14::a16 (a2 (.any :: []))))):List AV)) (fun ⟨_,l15⟩=>(.dead :: .cells (Z0 (cI .u8) l15) :: []:List AObj)) (fun n0 ⟨s14,l15⟩=>Wr N n_0 size n0 s14 l15) (0,(List.replicate ((ifB (decide (16<size)) 16 size):Int).toNat (0:Int))) h (rho [0,0]) Z2 fun n0 ⟨s14,l15⟩ h=>?_
 first | rw [Wr] at h | simp only [Wr] at h
 rw [cX] at h;apply iU h<;>intro h
 ·apply iU h<;>intro h
  ·refine kU h fun h=>?_;obtain ⟨y19,hy20,h⟩:=Vd h;refine Uo (Vy hy20 sd) ?_;refine Uo (Vh (c:=(cI .u8)) (e:=1) (fun _=>rfl) hy20 (off:=0) (by omega) rfl (by decide)) ?_
   refine Vk (c:=(cI .u8)) (e:=1) (fun _=>rfl) hy20 (wrap .u8 (Qa7 .u64 n_0 (wrap .u64 (wrap .i64 (8 * s14))))) (off:=0) (by first | omega | (simp only [Q0w,orI,Qfs,V9,Q37,Qa7];omega)) rfl (by simp) ?_
   show Exists _;exact ⟨(n0,(wrap .i64 (s14+1)),((l15:List Int).set (Int.toNat (wrap .i64 ((wrap .i64 ((ifB (decide (16<size)) 16 size) - 1)) - s14))) (wrap .u8 (Qa7 .u64 n_0 (wrap .u64 (wrap .i64 (8 * s14))))))),h,Ll _,(fun i=>i),Z2⟩
  show Exists _;exact ⟨(n0,(wrap .i64 (s14+1)),l15),h,Ll _,(fun i=>i),Z2⟩
 refine Qfr (l:=l15) (n:=l15.length) sd ?_;cases h;exact (.p _)
def Xo (N:Nat) (c:Q0):Option ((Unit)×Q0):=
 cond (Q6 .eql c.do' 0)
 ((X5 N []).bind fun v2=>
 some ((),(⟨c.do',(⟨c.m.Type',c.m.Flags,(wrap .i64 v2),c.m.Radius,c.m.Time,c.m.Timed,c.m.TopicID,c.m.MsgID,c.m.Code,c.m.Name,c.m.Data⟩:X1),c.out,c.bad⟩:Q0)))
 (cond (Q6 .eql c.do' 1)
 ((Qs N (wrap .u64 c.m.Gateway) 1).bind fun v5=>
 cond (!(Nat.beq v5.length 0)) (cond (Nat.ble ((c.out.length+v5.length+4096) * 1) 17592186044416) (some ((),(⟨c.do',c.m,(c.out++(v5.map fun b=>(b.toNat:Int))),c.bad⟩:Q0))) none) none)
 (cond c.bad
 (some ((),(⟨c.do',(⟨c.m.Type',c.m.Flags,0,c.m.Radius,c.m.Time,c.m.Timed,c.m.TopicID,c.m.MsgID,c.m.Code,c.m.Name,c.m.Data⟩:X1),c.out,true⟩:Q0)))
 (cond (Q6 .lss c.m.Gateway 0)
 (some ((),(⟨c.do',(⟨c.m.Type',c.m.Flags,0,c.m.Radius,c.m.Time,c.m.Timed,c.m.TopicID,c.m.MsgID,c.m.Code,c.m.Name,c.m.Data⟩:X1),c.out,true⟩:Q0)))
 (some ((),(⟨c.do',(⟨c.m.Type',c.m.Flags,0,c.m.Radius,c.m.Time,c.m.Timed,c.m.TopicID,c.m.MsgID,c.m.Code,c.m.Name,c.m.Data⟩:X1),c.out,(Q6 .geq c.m.Gateway (Q37 .i64 1 8))⟩:Q0))))))
theorem Ui {N} {c} {r} (h:Xo N c=some r):gU 110 (.ptr 0 0 :: []) (.cells (Xz c 1) :: .cells (Z0 (cI .u8) c.out) :: []) (.tuple []) (.cells (Xz r.2 2) :: .dead :: .cells (Z0 (cI .u8) r.2.out) :: []):=by
 refine Yv Qw4 (Lt rfl) ?_;unfold Xo at h;rw [cX] at h;refine Q3 Qn5 ?_;apply iU h<;>intro h
 ·refine Q3 Qmr ?_;refine Q3 Qkd ?_;refine Q3 Qih ?_;refine cP h Yk p1 fun v2 h=>?_;obtain rfl:=Qb h;show Exists _;exact ⟨(rho [0,1,1]),Z2⟩
 apply iU h<;>intro h
 ·refine Qa ?_;refine cD h Qm p2 fun v5 h=>?_;refine Q1a (b:=v5) ?_;obtain ⟨hk7,h⟩:=Q3x h;refine ifF (Qf2 hk7) ?_;obtain ⟨hk8,h⟩:=Q3x h;refine Uo (Xg (c:=(cI .u8)) (e:=1) (l:=c.out) (fun _=>rfl) sd hk8) ?_;refine U1 (c:=(cI .u8)) (l:=c.out) (v5.map fun b=>(b.toNat:Int)) rfl ?_;obtain rfl:=Qb h;show Exists _;exact ⟨(rho [0,1,2]),Z2⟩
 refine Qa ?_;apply iU h<;>intro h
 ·obtain rfl:=Qb h;show Exists _;exact ⟨(rho [0,1,1]),Z2⟩
 apply iU h<;>intro h
 ·obtain rfl:=Qb h;show Exists _;exact ⟨(rho [0,1,1]),Z2⟩
 obtain rfl:=Qb h;show Exists _;exact ⟨(rho [0,1,1]),Z2⟩
def Xr (N:Nat) (c:Q0):Option ((Unit)×Q0):=
 cond (Q6 .eql c.do' 0)
 ((X5 N []).bind fun v2=>
 some ((),(⟨c.do',(⟨c.m.Type',c.m.Flags,c.m.Gateway,c.m.Radius,(wrap .i64 v2),c.m.Timed,c.m.TopicID,c.m.MsgID,c.m.Code,c.m.Name,c.m.Data⟩:X1),c.out,c.bad⟩:Q0)))
 (cond (Q6 .eql c.do' 1)
 ((Qs N (wrap .u64 c.m.Time) 2).bind fun v5=>
 cond (!(Nat.beq v5.length 0)) (cond (Nat.ble ((c.out.length+v5.length+4096) * 1) 17592186044416) (some ((),(⟨c.do',c.m,(c.out++(v5.map fun b=>(b.toNat:Int))),c.bad⟩:Q0))) none) none)
 (cond c.bad
 (some ((),(⟨c.do',(⟨c.m.Type',c.m.Flags,c.m.Gateway,c.m.Radius,0,c.m.Timed,c.m.TopicID,c.m.MsgID,c.m.Code,c.m.Name,c.m.Data⟩:X1),c.out,true⟩:Q0)))
 (cond (Q6 .lss c.m.Time 0)
 (some ((),(⟨c.do',(⟨c.m.Type',c.m.Flags,c.m.Gateway,c.m.Radius,0,c.m.Timed,c.m.TopicID,c.m.MsgID,c.m.Code,c.m.Name,c.m.Data⟩:X1),c.out,true⟩:Q0)))
 (some ((),(⟨c.do',(⟨c.m.Type',c.m.Flags,c.m.Gateway,c.m.Radius,0,c.m.Timed,c.m.TopicID,c.m.MsgID,c.m.Code,c.m.Name,c.m.Data⟩:X1),c.out,(Q6 .geq c.m.Time (Q37 .i64 1 16))⟩:Q0))))))
theorem Vm {N} {c} {r} (h:Xr N c=some r):gU 111 (.ptr 0 0 :: []) (.cells (Xz c 1) :: .cells (Z0 (cI .u8) c.out) :: []) (.tuple []) (.cells (Xz r.2 2) :: .dead :: .cells (Z0 (cI .u8) r.2.out) :: []):=by
 refine Yv Z03 (Lt rfl) ?_;unfold Xr at h;rw [cX] at h;refine Q3 Qn5 ?_;apply iU h<;>intro h
 ·refine Q3 Qmr ?_;refine Q3 Qkd ?_;refine Q3 Qih ?_;refine cP h Yk p1 fun v2 h=>?_;obtain rfl:=Qb h;show Exists _;exact ⟨(rho [0,1,1]),Z2⟩
 apply iU h<;>intro h
 ·refine Qa ?_;refine cD h Qm p2 fun v5 h=>?_;refine Q1a (b:=v5) ?_;obtain ⟨hk7,h⟩:=Q3x h;refine ifF (Qf2 hk7) ?_;obtain ⟨hk8,h⟩:=Q3x h;refine Uo (Xg (c:=(cI .u8)) (e:=1) (l:=c.out) (fun _=>rfl) sd hk8) ?_;refine U1 (c:=(cI .u8)) (l:=c.out) (v5.map fun b=>(b.toNat:Int)) rfl ?_;obtain rfl:=Qb h;show Exists _;exact ⟨(rho [0,1,2]),Z2⟩
 refine Qa ?_;apply iU h<;>intro h
 ·obtain rfl:=Qb h;show Exists _;exact ⟨(rho [0,1,1]),Z2⟩
 apply iU h<;>intro h
 ·obtain rfl:=Qb h;show Exists _;exact ⟨(rho [0,1,1]),Z2⟩
 obtain rfl:=Qb h;show Exists _;exact ⟨(rho [0,1,1]),Z2⟩
def Vx (N:Nat) (c:Q0):Option ((Unit)×Q0):=
 cond (Q6 .eql c.do' 0)
 ((X5 N []).bind fun v2=>
 some ((),(⟨c.do',(⟨c.m.Type',c.m.Flags,c.m.Gateway,(wrap .i64 v2),c.m.Time,c.m.Timed,c.m.TopicID,c.m.MsgID,c.m.Code,c.m.Name,c.m.Data⟩:X1),c.out,c.bad⟩:Q0)))
 (cond (Q6 .eql c.do' 1)
 ((Qs N (wrap .u64 c.m.Radius) 1).bind fun v5=>
 cond (!(Nat.beq v5.length 0)) (cond (Nat.ble ((c.out.length+v5.length+4096) * 1) 17592186044416) (some ((),(⟨c.do',c.m,(c.out++(v5.map fun b=>(b.toNat:Int))),c.bad⟩:Q0))) none) none)
 (cond c.bad
 (some ((),(⟨c.do',(⟨c.m.Type',c.m.Flags,c.m.Gateway,0,c.m.Time,c.m.Timed,c.m.TopicID,c.m.MsgID,c.m.Code,c.m.Name,c.m.Data⟩:X1),c.out,true⟩:Q0)))
 (cond (Q6 .lss c.m.Radius 0)
 (some ((),(⟨c.do',(⟨c.m.Type',c.m.Flags,c.m.Gateway,0,c.m.Time,c.m.Timed,c.m.TopicID,c.m.MsgID,c.m.Code,c.m.Name,c.m.Data⟩:X1),c.out,true⟩:Q0)))
 (some ((),(⟨c.do',(⟨c.m.Type',c.m.Flags,c.m.Gateway,0,c.m.Time,c.m.Timed,c.m.TopicID,c.m.MsgID,c.m.Code,c.m.Name,c.m.Data⟩:X1),c.out,(Q6 .geq c.m.Radius (Q37 .i64 1 8))⟩:Q0))))))
theorem Q2q {N} {c} {r} (h:Vx N c=some r):gU 112 (.ptr 0 0 :: []) (.cells (Xz c 1) :: .cells (Z0 (cI .u8) c.out) :: []) (.tuple []) (.cells (Xz r.2 2) :: .dead :: .cells (Z0 (cI .u8) r.2.out) :: []):=by
 refine Yv Z1s (Lt rfl) ?_;unfold Vx at h;rw [cX] at h;refine Q3 Qn5 ?_;apply iU h<;>intro h
 ·refine Q3 Qmr ?_;refine Q3 Qkd ?_;refine Q3 Qih ?_;refine cP h Yk p1 fun v2 h=>?_;obtain rfl:=Qb h;show Exists _;exact ⟨(rho [0,1,1]),Z2⟩
 apply iU h<;>intro h
 ·refine Qa ?_;refine cD h Qm p2 fun v5 h=>?_;refine Q1a (b:=v5) ?_;obtain ⟨hk7,h⟩:=Q3x h;refine ifF (Qf2 hk7) ?_;obtain ⟨hk8,h⟩:=Q3x h;refine Uo (Xg (c:=(cI .u8)) (e:=1) (l:=c.out) (fun _=>rfl) sd hk8) ?_;refine U1 (c:=(cI .u8)) (l:=c.out) (v5.map fun b=>(b.toNat:Int)) rfl ?_;obtain rfl:=Qb h;show Exists _;exact ⟨(rho [0,1,2]),Z2⟩
 refine Qa ?_;apply iU h<;>intro h
 ·obtain rfl:=Qb h;show Exists _;exact ⟨(rho [0,1,1]),Z2⟩
 apply iU h<;>intro h
 ·obtain rfl:=Qb h;show Exists _;exact ⟨(rho [0,1,1]),Z2⟩
 obtain rfl:=Qb h;show Exists _;exact ⟨(rho [0,1,1]),Z2⟩
def Qx (_N:Nat) (c:Q0):Option ((Unit)×Q0):=
 cond (Q6 .eql c.do' 0)
 (some ((),(⟨c.do',(⟨c.m.Type',c.m.Flags,c.m.Gateway,c.m.Radius,c.m.Time,c.m.Timed,c.m.TopicID,c.m.MsgID,c.m.Code,[],c.m.Data⟩:X1),c.out,c.bad⟩:Q0)))
 (cond (Q6 .eql c.do' 1)
 (cond (Nat.beq c.m.Name.length 0)
 (some ((),c))
 (cond (Nat.ble ((c.out.length+c.m.Name.length+4096) * 1) 17592186044416) (some ((),(⟨c.do',c.m,(c.out++(c.m.Name.map fun b=>(b.toNat:Int))),c.bad⟩:Q0))) none))
 (some ((),(⟨c.do',(⟨c.m.Type',c.m.Flags,c.m.Gateway,c.m.Radius,c.m.Time,c.m.Timed,c.m.TopicID,c.m.MsgID,c.m.Code,[],c.m.Data⟩:X1),c.out,c.bad⟩:Q0))))
theorem Qw {N} {c} {r} (h:Qx N c=some r):gU 113 (.ptr 0 0 :: []) (.cells (Xz c 1) :: .cells (Z0 (cI .u8) c.out) :: []) (.tuple []) (.cells (Xz r.2 2) :: .dead :: .cells (Z0 (cI .u8) r.2.out) :: []):=by
 refine Yv Z04 (Lt rfl) ?_;unfold Qx at h;rw [cX] at h;refine Q3 Qtn ?_;apply iU h<;>intro h
 ·refine Qa ?_;refine Q0g [] (r:=iI 0) rfl rfl (fun a ha o ho=>?_) (Q3 Qqn ?_) ?_
  ·simp at ha
  ·refine Q3 Qpu ?_;exact ⟨rfl,[],(Mv _).symm⟩
  refine Q0g [] (r:=iS []) rfl rfl (fun a ha o ho=>?_) (Q3 Qkd ?_) ?_
  ·simp at ha
  ·refine Q3 Qih ?_;exact ⟨rfl,[],(Mv _).symm⟩
  obtain rfl:=Qb h;show Exists _;exact ⟨(rho [0,1,1]),Z2⟩
 apply iU h<;>intro h
 ·refine Qa ?_;refine Q1a (b:=c.m.Name) ?_;apply iU h<;>intro h
  ·obtain rfl:=Qb h;show Exists _;exact ⟨(rho [0,1,1]),Z2⟩
  obtain ⟨hk4,h⟩:=Q3x h;refine Uo (Xg (c:=(cI .u8)) (e:=1) (l:=c.out) (fun _=>rfl) sd hk4) ?_;refine U1 (c:=(cI .u8)) (l:=c.out) (c.m.Name.map fun b=>(b.toNat:Int)) rfl ?_;obtain rfl:=Qb h;show Exists _;exact ⟨(rho [0,1,2]),Z2⟩
 obtain rfl:=Qb h;show Exists _;exact ⟨(rho [0,1,1]),Z2⟩
def Z4 (N:Nat) (c:Q0):Option ((Unit)×Q0):=
 (Q02 N c.m.Flags).bind fun v1=>
 cond (Q6 .eql c.do' 2)
 (some ((),c))
 (cond (Q6 .eql c.do' 0)
 ((X5 N []).bind fun v5=>
 some ((),c))
 (cond (Q6 .eql c.do' 1)
 ((Qs N (wrap .u64 v1.1) 1).bind fun v8=>
 cond (!(Nat.beq v8.length 0)) (cond (Nat.ble ((c.out.length+v8.length+4096) * 1) 17592186044416) (some ((),(⟨c.do',c.m,(c.out++(v8.map fun b=>(b.toNat:Int))),c.bad⟩:Q0))) none) none)
 (cond c.bad
 (some ((),(⟨c.do',c.m,c.out,true⟩:Q0)))
 (cond (Q6 .lss v1.1 0)
 (some ((),(⟨c.do',c.m,c.out,true⟩:Q0)))
 (some ((),(⟨c.do',c.m,c.out,(Q6 .geq v1.1 (Q37 .i64 1 8))⟩:Q0)))))))
theorem Z7 {N} {c} {r} (h:Z4 N c=some r):gU 114 (.ptr 0 0 :: []) (.cells (Xz c 1) :: .cells (Z0 (cI .u8) c.out) :: []) (.tuple []) (.cells (Xz r.2 2) :: .dead :: .cells (Z0 (cI .u8) r.2.out) :: []):=by
 refine Yv Z14 (Lt rfl) ?_;unfold Z4 at h;rw [cX] at h;refine cP h Q34 (.cons (Ar (.cons (.p _) p5)) .nil) fun v1 h=>?_;apply iU h<;>intro h
 ·obtain rfl:=Qb h;show Exists _;exact ⟨(rho [0,1,1]),Z2⟩
 refine Q3 Qn5 ?_;refine ifO h (fun hc4 h=>?_) (fun hc4 h=>?_)
 ·refine Q3 Qmr ?_;refine Q3 Qkd ?_;refine Q3 Qih ?_;refine cP h Yk p1 fun v5 h=>?_;refine ifT hc4 ?_;refine Q3 Qzg ?_;refine dF ?_;obtain rfl:=Qb h;show Exists _;exact ⟨(rho [0,1,1]),Z2⟩
 apply iU h<;>intro h
 ·refine Qa ?_;refine cD h Qm p2 fun v8 h=>?_;refine Q1a (b:=v8) ?_;obtain ⟨hk10,h⟩:=Q3x h;refine ifF (Qf2 hk10) ?_;obtain ⟨hk11,h⟩:=Q3x h;refine Uo (Xg (c:=(cI .u8)) (e:=1) (l:=c.out) (fun _=>rfl) sd hk11) ?_;refine U1 (c:=(cI .u8)) (l:=c.out) (v8.map fun b=>(b.toNat:Int)) rfl ?_;refine ifF hc4 ?_;obtain rfl:=Qb h;show Exists _;exact ⟨(rho [0,1,3]),Z2⟩
 refine Qa ?_;apply iU h<;>intro h
 ·refine ifF hc4 ?_;obtain rfl:=Qb h;show Exists _;exact ⟨(rho [0,1,1]),Z2⟩
 apply iU h<;>intro h
 ·refine ifF hc4 ?_;obtain rfl:=Qb h;show Exists _;exact ⟨(rho [0,1,1]),Z2⟩
 refine ifF hc4 ?_;obtain rfl:=Qb h;show Exists _;exact ⟨(rho [0,1,1]),Z2⟩
def Wu (N:Nat) (c:Q0):Option ((Unit)×Q0):=
 cond (Q6 .eql c.do' 0)
 ((X5 N []).bind fun v2=>
 cond (Q6 .neq (wrap .i64 v2) 1)
 (some ((),c))
 (some ((),c)))
 (cond (Q6 .eql c.do' 1)
 ((Qs N (wrap .u64 1) 1).bind fun v6=>
 cond (!(Nat.beq v6.length 0)) (cond (Nat.ble ((c.out.length+v6.length+4096) * 1) 17592186044416) (some ((),(⟨c.do',c.m,(c.out++(v6.map fun b=>(b.toNat:Int))),c.bad⟩:Q0))) none) none)
 (cond c.bad
 (some ((),(⟨c.do',c.m,c.out,true⟩:Q0)))
 (some ((),(⟨c.do',c.m,c.out,(Q6 .geq 1 (Q37 .i64 1 8))⟩:Q0)))))
theorem Q1n {N} {c} {r} (h:Wu N c=some r):gU 115 (.ptr 0 0 :: []) (.cells (Xz c 1) :: .cells (Z0 (cI .u8) c.out) :: []) (.tuple []) (.cells (Xz r.2 2) :: .dead :: .cells (Z0 (cI .u8) r.2.out) :: []):=by
 refine Yv Qxm (Lt rfl) ?_;unfold Wu at h;rw [cX] at h;refine Q3 Qn5 ?_;refine ifO h (fun hc1 h=>?_) (fun hc1 h=>?_)
 ·refine Q3 Qmr ?_;refine Q3 Qkd ?_;refine Q3 Qih ?_;refine cP h Yk p1 fun v2 h=>?_;refine ifT hc1 ?_;apply iU h<;>intro h
  ·refine Q3 Qsw ?_;refine Q3 Qih ?_;obtain rfl:=Qb h;show Exists _;exact ⟨(rho [0,1,1]),Z2⟩
  obtain rfl:=Qb h;show Exists _;exact ⟨(rho [0,1,1]),Z2⟩
 apply iU h<;>intro h
 ·refine Qa ?_;refine cD h Qm p2 fun v6 h=>?_;refine Q1a (b:=v6) ?_;obtain ⟨hk8,h⟩:=Q3x h;refine ifF (Qf2 hk8) ?_;obtain ⟨hk9,h⟩:=Q3x h;refine Uo (Xg (c:=(cI .u8)) (e:=1) (l:=c.out) (fun _=>rfl) sd hk9) ?_;refine U1 (c:=(cI .u8)) (l:=c.out) (v6.map fun b=>(b.toNat:Int)) rfl ?_;refine ifF hc1 ?_;obtain rfl:=Qb h;show Exists _;exact ⟨(rho [0,1,3]),Z2⟩
 refine Qa ?_;apply iU h<;>intro h
 ·refine ifF hc1 ?_;obtain rfl:=Qb h;show Exists _;exact ⟨(rho [0,1,1]),Z2⟩
 refine dF ?_;refine ifF hc1 ?_;obtain rfl:=Qb h;show Exists _;exact ⟨(rho [0,1,1]),Z2⟩
def Zg (N:Nat) (c:Q0):Option ((Unit)×Q0):=
 cond (Q6 .eql c.do' 0)
 ((X5 N []).bind fun v2=>
 some ((),(⟨c.do',(⟨c.m.Type',c.m.Flags,c.m.Gateway,c.m.Radius,c.m.Time,c.m.Timed,c.m.TopicID,c.m.MsgID,(wrap .i64 v2),c.m.Name,c.m.Data⟩:X1),c.out,c.bad⟩:Q0)))
 (cond (Q6 .eql c.do' 1)
 ((Qs N (wrap .u64 c.m.Code) 1).bind fun v5=>
 cond (!(Nat.beq v5.length 0)) (cond (Nat.ble ((c.out.length+v5.length+4096) * 1) 17592186044416) (some ((),(⟨c.do',c.m,(c.out++(v5.map fun b=>(b.toNat:Int))),c.bad⟩:Q0))) none) none)
 (cond c.bad
 (some ((),(⟨c.do',(⟨c.m.Type',c.m.Flags,c.m.Gateway,c.m.Radius,c.m.Time,c.m.Timed,c.m.TopicID,c.m.MsgID,0,c.m.Name,c.m.Data⟩:X1),c.out,true⟩:Q0)))
 (cond (Q6 .lss c.m.Code 0)
 (some ((),(⟨c.do',(⟨c.m.Type',c.m.Flags,c.m.Gateway,c.m.Radius,c.m.Time,c.m.Timed,c.m.TopicID,c.m.MsgID,0,c.m.Name,c.m.Data⟩:X1),c.out,true⟩:Q0)))
 (some ((),(⟨c.do',(⟨c.m.Type',c.m.Flags,c.m.Gateway,c.m.Radius,c.m.Time,c.m.Timed,c.m.TopicID,c.m.MsgID,0,c.m.Name,c.m.Data⟩:X1),c.out,(Q6 .geq c.m.Code (Q37 .i64 1 8))⟩:Q0))))))
theorem Zl {N} {c} {r} (h:Zg N c=some r):gU 116 (.ptr 0 0 :: []) (.cells (Xz c 1) :: .cells (Z0 (cI .u8) c.out) :: []) (.tuple []) (.cells (Xz r.2 2) :: .dead :: .cells (Z0 (cI .u8) r.2.out) :: []):=by
 refine Yv Z0x (Lt rfl) ?_;unfold Zg at h;rw [cX] at h;refine Q3 Qn5 ?_;apply iU h<;>intro h
 ·refine Q3 Qmr ?_;refine Q3 Qkd ?_;refine Q3 Qih ?_;refine cP h Yk p1 fun v2 h=>?_;obtain rfl:=Qb h;show Exists _;exact ⟨(rho [0,1,1]),Z2⟩
 apply iU h<;>intro h
 ·refine Qa ?_;refine cD h Qm p2 fun v5 h=>?_;refine Q1a (b:=v5) ?_;obtain ⟨hk7,h⟩:=Q3x h;refine ifF (Qf2 hk7) ?_;obtain ⟨hk8,h⟩:=Q3x h;refine Uo (Xg (c:=(cI .u8)) (e:=1) (l:=c.out) (fun _=>rfl) sd hk8) ?_;refine U1 (c:=(cI .u8)) (l:=c.out) (v5.map fun b=>(b.toNat:Int)) rfl ?_;obtain rfl:=Qb h;show Exists _;exact ⟨(rho [0,1,2]),Z2⟩
 refine Qa ?_;apply iU h<;>intro h
 ·obtain rfl:=Qb h;show Exists _;exact ⟨(rho [0,1,1]),Z2⟩
 apply iU h<;>intro h
 ·obtain rfl:=Qb h;show Exists _;exact ⟨(rho [0,1,1]),Z2⟩
 obtain rfl:=Qb h;show Exists _;exact ⟨(rho [0,1,1]),Z2⟩
def Wy (N:Nat) (c:Q0):Option ((Unit)×Q0):=
 cond (Q6 .eql c.do' 0)
 (some ((),c))
 (cond (Q6 .neq c.do' 0)
 (cond (Q31 .eql c.m.Name [])
 (some ((),c))
 ((Z4 N c).bind fun v4=>
 cond (Q6 .eql v4.2.do' 0)
 ((Qx N v4.2).bind fun v7=>
 some ((),v7.2))
 ((Qx N v4.2).bind fun v9=>
 some ((),v9.2))))
 ((Z4 N c).bind fun v11=>
 cond (Q6 .eql v11.2.do' 0)
 ((Qx N v11.2).bind fun v14=>
 some ((),v14.2))
 ((Qx N v11.2).bind fun v16=>
 some ((),v16.2))))
theorem Gc {N} {c} {r} (h:Wy N c=some r):gU 117 (.ptr 0 0 :: []) (.cells (Xz c 1) :: .cells (Z0 (cI .u8) c.out) :: []) (.tuple []) (.cells (Xz r.2 2) :: .dead :: .cells (Z0 (cI .u8) r.2.out) :: []):=by
 refine Yv Qw9 (Lt rfl) ?_;unfold Wy at h;rw [cX,cY] at h;apply iU h<;>intro h
 ·refine Q3 Qqn ?_;refine Q3 Qpu ?_;refine dT ?_;obtain rfl:=Qb h;show Exists _;exact ⟨(rho [0,1,1]),Z2⟩
 apply iU h<;>intro h
 ·apply iU h<;>intro h
  ·obtain rfl:=Qb h;show Exists _;exact ⟨(rho [0,1,1]),Z2⟩
  refine cG h Z7 fun v4 h=>?_;refine ⟨rho [0,1],(.cells (Xz v4.2 2) :: .dead :: .cells (Z0 (cI .u8) v4.2.out) :: []),.tuple [],gcQ,?_⟩;apply iU h<;>intro h
  ·refine Q3 Qqn ?_;refine Q3 Qpu ?_;refine dT ?_;refine Q3 Qsw ?_;refine Q3 Qih ?_;refine cG h Qw fun v7 h=>?_;refine ⟨rho [0,2],(.cells (Xz v7.2 3) :: .dead :: .dead :: .cells (Z0 (cI .u8) v7.2.out) :: []),.tuple [],gcQ,?_⟩;obtain rfl:=Qb h;show Exists _;exact ⟨(rho [0,1,3]),Z2⟩
  refine cG h Qw fun v9 h=>?_;refine ⟨rho [0,2],(.cells (Xz v9.2 3) :: .dead :: .dead :: .cells (Z0 (cI .u8) v9.2.out) :: []),.tuple [],gcQ,?_⟩;obtain rfl:=Qb h;show Exists _;exact ⟨(rho [0,1,3]),Z2⟩
 refine cG h Z7 fun v11 h=>?_;refine ⟨rho [0,1],(.cells (Xz v11.2 2) :: .dead :: .cells (Z0 (cI .u8) v11.2.out) :: []),.tuple [],gcQ,?_⟩;apply iU h<;>intro h
 ·refine Q3 Qqn ?_;refine Q3 Qpu ?_;refine dT ?_;refine Q3 Qsw ?_;refine Q3 Qih ?_;refine cG h Qw fun v14 h=>?_;refine ⟨rho [0,2],(.cells (Xz v14.2 3) :: .dead :: .dead :: .cells (Z0 (cI .u8) v14.2.out) :: []),.tuple [],gcQ,?_⟩;obtain rfl:=Qb h;show Exists _;exact ⟨(rho [0,1,3]),Z2⟩
 refine cG h Qw fun v16 h=>?_;refine ⟨rho [0,2],(.cells (Xz v16.2 3) :: .dead :: .dead :: .cells (Z0 (cI .u8) v16.2.out) :: []),.tuple [],gcQ,?_⟩;obtain rfl:=Qb h;show Exists _;exact ⟨(rho [0,1,3]),Z2⟩
def Xk (_N:Nat) (c:Q0):Option ((Unit)×Q0):=
 cond (Q6 .eql c.do' 0)
 (some ((),(⟨c.do',(⟨c.m.Type',c.m.Flags,c.m.Gateway,c.m.Radius,c.m.Time,c.m.Timed,c.m.TopicID,c.m.MsgID,c.m.Code,c.m.Name,[]⟩:X1),c.out,c.bad⟩:Q0)))
 (cond (Q6 .eql c.do' 1)
 (cond (Nat.beq c.m.Data.length 0)
 (some ((),c))
 (cond (Nat.ble ((c.out.length+c.m.Data.length+4096) * 1) 17592186044416) (some ((),(⟨c.do',c.m,(c.out++(c.m.Data.map fun b=>(b.toNat:Int))),c.bad⟩:Q0))) none))
 (some ((),(⟨c.do',(⟨c.m.Type',c.m.Flags,c.m.Gateway,c.m.Radius,c.m.Time,c.m.Timed,c.m.TopicID,c.m.MsgID,c.m.Code,c.m.Name,[]⟩:X1),c.out,c.bad⟩:Q0))))
theorem Vj {N} {c} {r} (h:Xk N c=some r):gU 118 (.ptr 0 0 :: []) (.cells (Xz c 1) :: .cells (Z0 (cI .u8) c.out) :: []) (.tuple []) (.cells (Xz r.2 2) :: .dead :: .cells (Z0 (cI .u8) r.2.out) :: []):=by
 refine Yv Z4c (Lt rfl) ?_;unfold Xk at h;rw [cX] at h;refine Q3 Qtn ?_;apply iU h<;>intro h
 ·refine Qa ?_;refine Q0g [] (r:=iI 0) rfl rfl (fun a ha o ho=>?_) (Q3 Qqn ?_) ?_
  ·simp at ha
  ·refine Q3 Qpu ?_;exact ⟨rfl,[],(Mv _).symm⟩
  refine Q0g [] (r:=iS []) rfl rfl (fun a ha o ho=>?_) (Q3 Qkd ?_) ?_
  ·simp at ha
  ·refine Q3 Qih ?_;exact ⟨rfl,[],(Mv _).symm⟩
  obtain rfl:=Qb h;show Exists _;exact ⟨(rho [0,1,1]),Z2⟩
 apply iU h<;>intro h
 ·refine Qa ?_;refine Q1a (b:=c.m.Data) ?_;apply iU h<;>intro h
  ·obtain rfl:=Qb h;show Exists _;exact ⟨(rho [0,1,1]),Z2⟩
  obtain ⟨hk4,h⟩:=Q3x h;refine Uo (Xg (c:=(cI .u8)) (e:=1) (l:=c.out) (fun _=>rfl) sd hk4) ?_;refine U1 (c:=(cI .u8)) (l:=c.out) (c.m.Data.map fun b=>(b.toNat:Int)) rfl ?_;obtain rfl:=Qb h;show Exists _;exact ⟨(rho [0,1,2]),Z2⟩
 obtain rfl:=Qb h;show Exists _;exact ⟨(rho [0,1,1]),Z2⟩
def Y7 (N:Nat) (c:Q0):Option ((Unit)×Q0):=
 cond (Q6 .eql c.do' 0)
 ((X5 N []).bind fun v2=>
 some ((),(⟨c.do',(⟨c.m.Type',c.m.Flags,c.m.Gateway,c.m.Radius,c.m.Time,c.m.Timed,(wrap .i64 v2),c.m.MsgID,c.m.Code,c.m.Name,c.m.Data⟩:X1),c.out,c.bad⟩:Q0)))
 (cond (Q6 .eql c.do' 1)
 ((Qs N (wrap .u64 c.m.TopicID) 2).bind fun v5=>
 cond (!(Nat.beq v5.length 0)) (cond (Nat.ble ((c.out.length+v5.length+4096) * 1) 17592186044416) (some ((),(⟨c.do',c.m,(c.out++(v5.map fun b=>(b.toNat:Int))),c.bad⟩:Q0))) none) none)
 (cond c.bad
 (some ((),(⟨c.do',(⟨c.m.Type',c.m.Flags,c.m.Gateway,c.m.Radius,c.m.Time,c.m.Timed,0,c.m.MsgID,c.m.Code,c.m.Name,c.m.Data⟩:X1),c.out,true⟩:Q0)))
 (cond (Q6 .lss c.m.TopicID 0)
 (some ((),(⟨c.do',(⟨c.m.Type',c.m.Flags,c.m.Gateway,c.m.Radius,c.m.Time,c.m.Timed,0,c.m.MsgID,c.m.Code,c.m.Name,c.m.Data⟩:X1),c.out,true⟩:Q0)))
 (some ((),(⟨c.do',(⟨c.m.Type',c.m.Flags,c.m.Gateway,c.m.Radius,c.m.Time,c.m.Timed,0,c.m.MsgID,c.m.Code,c.m.Name,c.m.Data⟩:X1),c.out,(Q6 .geq c.m.TopicID (Q37 .i64 1 16))⟩:Q0))))))
theorem Yh {N} {c} {r} (h:Y7 N c=some r):gU 119 (.ptr 0 0 :: []) (.cells (Xz c 1) :: .cells (Z0 (cI .u8) c.out) :: []) (.tuple []) (.cells (Xz r.2 2) :: .dead :: .cells (Z0 (cI .u8) r.2.out) :: []):=by
 refine Yv Qvy (Lt rfl) ?_;unfold Y7 at h;rw [cX] at h;refine Q3 Qn5 ?_;apply iU h<;>intro h
 ·refine Q3 Qmr ?_;refine Q3 Qkd ?_;refine Q3 Qih ?_;refine cP h Yk p1 fun v2 h=>?_;obtain rfl:=Qb h;show Exists _;exact ⟨(rho [0,1,1]),Z2⟩
 apply iU h<;>intro h
 ·refine Qa ?_;refine cD h Qm p2 fun v5 h=>?_;refine Q1a (b:=v5) ?_;obtain ⟨hk7,h⟩:=Q3x h;refine ifF (Qf2 hk7) ?_;obtain ⟨hk8,h⟩:=Q3x h;refine Uo (Xg (c:=(cI .u8)) (e:=1) (l:=c.out) (fun _=>rfl) sd hk8) ?_;refine U1 (c:=(cI .u8)) (l:=c.out) (v5.map fun b=>(b.toNat:Int)) rfl ?_;obtain rfl:=Qb h;show Exists _;exact ⟨(rho [0,1,2]),Z2⟩
 refine Qa ?_;apply iU h<;>intro h
 ·obtain rfl:=Qb h;show Exists _;exact ⟨(rho [0,1,1]),Z2⟩
 apply iU h<;>intro h
 ·obtain rfl:=Qb h;show Exists _;exact ⟨(rho [0,1,1]),Z2⟩
 obtain rfl:=Qb h;show Exists _;exact ⟨(rho [0,1,1]),Z2⟩
def Qr (N:Nat) (c:Q0):Option ((Unit)×Q0):=
 cond (Q6 .eql c.do' 0)
 ((X5 N []).bind fun v2=>
 some ((),(⟨c.do',(⟨c.m.Type',c.m.Flags,c.m.Gateway,c.m.Radius,c.m.Time,c.m.Timed,c.m.TopicID,(wrap .i64 v2),c.m.Code,c.m.Name,c.m.Data⟩:X1),c.out,c.bad⟩:Q0)))
 (cond (Q6 .eql c.do' 1)
 ((Qs N (wrap .u64 c.m.MsgID) 2).bind fun v5=>
 cond (!(Nat.beq v5.length 0)) (cond (Nat.ble ((c.out.length+v5.length+4096) * 1) 17592186044416) (some ((),(⟨c.do',c.m,(c.out++(v5.map fun b=>(b.toNat:Int))),c.bad⟩:Q0))) none) none)
 (cond c.bad
 (some ((),(⟨c.do',(⟨c.m.Type',c.m.Flags,c.m.Gateway,c.m.Radius,c.m.Time,c.m.Timed,c.m.TopicID,0,c.m.Code,c.m.Name,c.m.Data⟩:X1),c.out,true⟩:Q0)))
 (cond (Q6 .lss c.m.MsgID 0)
 (some ((),(⟨c.do',(⟨c.m.Type',c.m.Flags,c.m.Gateway,c.m.Radius,c.m.Time,c.m.Timed,c.m.TopicID,0,c.m.Code,c.m.Name,c.m.Data⟩:X1),c.out,true⟩:Q0)))
 (some ((),(⟨c.do',(⟨c.m.Type',c.m.Flags,c.m.Gateway,c.m.Radius,c.m.Time,c.m.Timed,c.m.TopicID,0,c.m.Code,c.m.Name,c.m.Data⟩:X1),c.out,(Q6 .geq c.m.MsgID (Q37 .i64 1 16))⟩:Q0))))))
theorem Qq {N} {c} {r} (h:Qr N c=some r):gU 120 (.ptr 0 0 :: []) (.cells (Xz c 1) :: .cells (Z0 (cI .u8) c.out) :: []) (.tuple []) (.cells (Xz r.2 2) :: .dead :: .cells (Z0 (cI .u8) r.2.out) :: []):=by
 refine Yv Qw2 (Lt rfl) ?_;unfold Qr at h;rw [cX] at h;refine Q3 Qn5 ?_;apply iU h<;>intro h
 ·refine Q3 Qmr ?_;refine Q3 Qkd ?_;refine Q3 Qih ?_;refine cP h Yk p1 fun v2 h=>?_;obtain rfl:=Qb h;show Exists _;exact ⟨(rho [0,1,1]),Z2⟩
 apply iU h<;>intro h
 ·refine Qa ?_;refine cD h Qm p2 fun v5 h=>?_;refine Q1a (b:=v5) ?_;obtain ⟨hk7,h⟩:=Q3x h;refine ifF (Qf2 hk7) ?_;obtain ⟨hk8,h⟩:=Q3x h;refine Uo (Xg (c:=(cI .u8)) (e:=1) (l:=c.out) (fun _=>rfl) sd hk8) ?_;refine U1 (c:=(cI .u8)) (l:=c.out) (v5.map fun b=>(b.toNat:Int)) rfl ?_;obtain rfl:=Qb h;show Exists _;exact ⟨(rho [0,1,2]),Z2⟩
 refine Qa ?_;apply iU h<;>intro h
 ·obtain rfl:=Qb h;show Exists _;exact ⟨(rho [0,1,1]),Z2⟩
 apply iU h<;>intro h
 ·obtain rfl:=Qb h;show Exists _;exact ⟨(rho [0,1,1]),Z2⟩
 obtain rfl:=Qb h;show Exists _;exact ⟨(rho [0,1,1]),Z2⟩
def Wm (N:Nat) (c:Q0):Option ((Unit)×Q0):=
 cond (Q6 .eql c.m.Flags.Type' 0)
 ((Qx N c).bind fun v2=>
 some ((),v2.2))
 ((Y7 N c).bind fun v4=>
 some ((),v4.2))
theorem Je {N} {c} {r} (h:Wm N c=some r):gU 121 (.ptr 0 0 :: []) (.cells (Xz c 1) :: .cells (Z0 (cI .u8) c.out) :: []) (.tuple []) (.cells (Xz r.2 2) :: .dead :: .cells (Z0 (cI .u8) r.2.out) :: []):=by
 refine Yv Qv2 (Lt rfl) ?_;unfold Wm at h;rw [cX] at h;apply iU h<;>intro h
 ·refine cG h Qw fun v2 h=>?_;refine ⟨rho [0,1],(.cells (Xz v2.2 2) :: .dead :: .cells (Z0 (cI .u8) v2.2.out) :: []),.tuple [],gcQ,?_⟩;obtain rfl:=Qb h;show Exists _;exact ⟨(rho [0,1,2]),Z2⟩
 refine cG h Yh fun v4 h=>?_;refine ⟨rho [0,1],(.cells (Xz v4.2 2) :: .dead :: .cells (Z0 (cI .u8) v4.2.out) :: []),.tuple [],gcQ,?_⟩;obtain rfl:=Qb h;show Exists _;exact ⟨(rho [0,1,2]),Z2⟩
def Ww (N:Nat) (c:Q0):Option ((Unit)×Q0):=
 cond (Q6 .eql c.do' 0)
 (cond (Q6 .eql c.do' 2)
 (some ((),(⟨c.do',(⟨c.m.Type',c.m.Flags,c.m.Gateway,c.m.Radius,c.m.Time,false,c.m.TopicID,c.m.MsgID,c.m.Code,c.m.Name,c.m.Data⟩:X1),c.out,c.bad⟩:Q0)))
 (some ((),(⟨c.do',(⟨c.m.Type',c.m.Flags,c.m.Gateway,c.m.Radius,c.m.Time,(Q6 .gtr 0 0),c.m.TopicID,c.m.MsgID,c.m.Code,c.m.Name,c.m.Data⟩:X1),c.out,c.bad⟩:Q0))))
 (cond c.m.Timed
 ((Xr N c).bind fun v4=>
 cond (Q6 .eql v4.2.do' 2)
 (some ((),(⟨v4.2.do',(⟨v4.2.m.Type',v4.2.m.Flags,v4.2.m.Gateway,v4.2.m.Radius,v4.2.m.Time,false,v4.2.m.TopicID,v4.2.m.MsgID,v4.2.m.Code,v4.2.m.Name,v4.2.m.Data⟩:X1),v4.2.out,v4.2.bad⟩:Q0)))
 (some ((),v4.2)))
 (cond (Q6 .eql c.do' 2)
 (some ((),(⟨c.do',(⟨c.m.Type',c.m.Flags,c.m.Gateway,c.m.Radius,c.m.Time,false,c.m.TopicID,c.m.MsgID,c.m.Code,c.m.Name,c.m.Data⟩:X1),c.out,c.bad⟩:Q0)))
 (some ((),c))))
theorem Q1k {N} {c} {r} (h:Ww N c=some r):gU 122 (.ptr 0 0 :: []) (.cells (Xz c 1) :: .cells (Z0 (cI .u8) c.out) :: []) (.tuple []) (.cells (Xz r.2 2) :: .dead :: .cells (Z0 (cI .u8) r.2.out) :: []):=by
 refine Yv Qyf (Lt rfl) ?_;unfold Ww at h;rw [cX] at h;apply iU h<;>intro h
 ·refine Q3 Qqn ?_;refine Q3 Qpu ?_;refine dF ?_;apply iU h<;>intro h
  ·obtain rfl:=Qb h;show Exists _;exact ⟨(rho [0,1,1]),Z2⟩
  obtain rfl:=Qb h;show Exists _;exact ⟨(rho [0,1,1]),Z2⟩
 apply iU h<;>intro h
 ·refine cG h Vm fun v4 h=>?_;refine ⟨rho [0,1],(.cells (Xz v4.2 2) :: .dead :: .cells (Z0 (cI .u8) v4.2.out) :: []),.tuple [],gcQ,?_⟩;apply iU h<;>intro h
  ·obtain rfl:=Qb h;show Exists _;exact ⟨(rho [0,1,2]),Z2⟩
  obtain rfl:=Qb h;show Exists _;exact ⟨(rho [0,1,2]),Z2⟩
 apply iU h<;>intro h
 ·obtain rfl:=Qb h;show Exists _;exact ⟨(rho [0,1,1]),Z2⟩
 obtain rfl:=Qb h;show Exists _;exact ⟨(rho [0,1,1]),Z2⟩
end
end
end Go.Av
