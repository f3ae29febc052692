/- Part of the proof of CrossRound: for every input the law returns true; no condition. -/
import Derived.Test.YtaokaobiihpkbaaGreatDoorLiftTy
import Derived.Test.YtaokaobiihpkbaaGreatDoorChks
import Derived.Test.YtaokaobiihpkbaaGreatDoorSeat1
import Derived.Test.YtaokaobiihpkbaaGreatDoorRound
import Derived.Test.YtaokaobiihpkbaaGreatDoorC16of
import Derived.Test.YtaokaobiihpkbaaGreatDoorAvAbb
import Derived.KernelRfl
import Derived.Test.YtaokaobiihpkbaaGreatDoorRegT
import Derived.Test.YtaokaobiihpkbaaGreatDoorRegS
import Derived.Test.YtaokaobiihpkbaaGreatDoorClosed5
set_option linter.all false
open Go.IntKind (wrap)
namespace Go.Av
noncomputable section
open Go.Proofs
set_option maxRecDepth 100000
set_option maxHeartbeats 4000000
attribute [local irreducible] Xd Qu Q6p Q5q Qoa Qoi Qgy
section
abbrev pU:=Q71 Tryz.prog G1
abbrev gU:=GC Tryz.prog G1
def Q1e (_N:Nat):Option Bool:=some true
theorem Q3u {N r} (h:Q1e N=some r):pU 6 [] (.bool r):=by cases h;exact Qgj Qe8 (N:=4000) (d:=60) (by kernel_rfl)
def Ya (N:Nat) (l:List Q8):Nat→Int→Option Bool
 | 0,_=>none
 | n+1,i17=>
  cond (Q5 .lss i17 ((Q9 Q8.cells l).length:Int))
  ((idx l i17).bind fun y19=>
  cond (Q5 .gtr (y19.Client.length:Int) 100)
  (some false)
  ((idx l i17).bind fun y22=>
  cond (Q5 .gtr (y22.Name.length:Int) 200)
  (some false)
  (Ya N l n (wrap .i64 (i17+1)))))
  (some (Q5 .leq ((Q9 Q8.cells l).length:Int) 20))
def U1 (N:Nat) (l:List Q8):Option Bool:=
 Ya N l N 0
theorem Q3h {N} {l} {r} (h:U1 N l=some r):pU 7 [.slice 3 (Q9 Q8.cells l)] (.bool r):=by
 refine Q3 k7 ?_;unfold U1 at h;refine lpH (τ:=Int) (fun i17=>(.p (.slice 3 (Q9 Q8.cells l)) :: .any :: .any::iI i17::a16 (a8 (.any :: [])):List AV)) (fun n0 i17=>Ya N l n0 i17) (0) h fun n0 i17 h=>?_
 first | rw [Ya] at h | simp only [Ya] at h
 rw [cX] at h;refine iR h fun h=>?_;refine xR h fun y19 h=>?_;refine iL h fun h=>?_;refine xR h fun y22 h=>?_;refine iL h fun h=>?_;show Exists _;exact ⟨(n0,(wrap .i64 (i17+1))),h,Lg _,(fun i=>i),Yr⟩
def Jv (_N:Nat) (s_0:List UInt8):Option Bool:=
 cond (Q5 .geq (s_0.length:Int) 3)
 (cond (Nat.ble 0 3&&Nat.ble 3 s_0.length) (some (Q0m .eql ((s_0.take 3).drop 0) [239,191,189])) none)
 (some false)
theorem Q8d {N} {s_0} {r} (h:Jv N s_0=some r):pU 181 [.str s_0] (.bool r):=by
 refine Q3 Z1e ?_;unfold Jv at h;rw [cX,cY] at h;refine iR h fun h=>?_;refine kU h fun h=>?_;cases h;exact (.p _)
def W6 (N:Nat) (s_0:List UInt8):Nat→Nat→Option Int
 | 0,_=>none
 | n+1,pos16=>
  cond (Nat.blt pos16 s_0.length)
  (cond (Q5 .eql (((Q9u s_0 pos16).1:Nat):Int) 0)
  (some ((pos16:Nat):Int))
  (cond (Q5 .eql (((Q9u s_0 pos16).1:Nat):Int) 65533)
  (cond (Nat.ble pos16 s_0.length&&Nat.ble s_0.length s_0.length) ((Jv N ((s_0.take s_0.length).drop pos16)).bind fun v21=>
  cond (!v21)
  (some ((pos16:Nat):Int))
  (W6 N s_0 n (pos16+(Q9u s_0 pos16).2))) none)
  (W6 N s_0 n (pos16+(Q9u s_0 pos16).2))))
  (some (-1))
def Q26 (N:Nat) (s_0:List UInt8):Option Int:=
 W6 N s_0 N 0
theorem Qag {N} {s_0} {r} (h:Q26 N s_0=some r):pU 144 [.str s_0] (.int .i64 r):=by
 refine Q3 Z39 ?_;unfold Q26 at h;refine lpA (τ:=Nat) (fun _=>(iS s_0::a4 (.any :: .ptr 0 0::a16 (a2 ([]))):List AV)) (fun pos16=>(.strIter s_0 pos16 :: []:List AObj)) (fun n0 pos16=>W6 N s_0 n0 pos16) (0) h fun n0 pos16 h=>?_
 first | rw [W6] at h | simp only [W6] at h
 rw [cX] at h;refine iR h fun h=>?_;refine iL h fun h=>?_;apply iU h<;>intro h
 ·refine kU h fun h=>?_;refine cP h Q8d p1 fun v21 h=>?_;refine iL h fun h=>?_;show Exists _;exact ⟨(n0,(pos16+(Q9u s_0 pos16).2)),h,Lg _,(fun i=>i),Yr⟩
 show Exists _;exact ⟨(n0,(pos16+(Q9u s_0 pos16).2)),h,Lg _,(fun i=>i),Yr⟩
def Xh (N:Nat) (s_0:List UInt8):Option Bool:=
 cond (Q5 .leq (s_0.length:Int) 65535)
 ((Q26 N s_0).bind fun v2=>
 some (Q5 .eql v2 (-1)))
 (some false)
theorem Xu {N} {s_0} {r} (h:Xh N s_0=some r):pU 113 [.str s_0] (.bool r):=by
 refine Q3 Z84 ?_;unfold Xh at h;rw [cX] at h;refine iR h fun h=>?_;refine cP h Qag p1 fun v2 h=>?_;cases h;exact (.p _)
def Q30 (N:Nat) (s_0:List UInt8):Option Bool:=
 cond (Q0m .neq s_0 [])
 ((Xh N s_0).bind fun v2=>
 some v2)
 (some false)
theorem Qbo {N} {s_0} {r} (h:Q30 N s_0=some r):pU 89 [.str s_0] (.bool r):=by
 refine Q3 k89 ?_;unfold Q30 at h;rw [cY] at h;refine iR h fun h=>?_;refine cP h Xu p1 fun v2 h=>?_;cases h;exact (.p _)
def Yy (_N:Nat) (s_0:List UInt8) (c:Int):Option Int:=
 some (Qk1 s_0 (UInt8.ofNat (Int.toNat c)) 0:Int)
theorem Gm {N} {s_0} {c} {r} (h:Yy N s_0 c=some r):pU 207 [.str s_0,.int .u8 c] (.int .i64 r):=by
 refine Q3 Z0n ?_;unfold Yy at h;cases h;exact (.p _)
def Uv (N:Nat) (s_0:List UInt8) (c:Int):Option Int:=
 (Yy N s_0 c).bind fun v1=>
 some v1
theorem Q0p {N} {s_0} {c} {r} (h:Uv N s_0 c=some r):pU 182 [.str s_0,.int .u8 c] (.int .i64 r):=by
 refine Q3 Z5g ?_;unfold Uv at h;refine cP h Gm p2 fun v1 h=>?_;cases h;exact (.p _)
def Xr (_N:Nat) (r_0:Int):Option Bool:=
 cond (Q5 .leq 0 r_0)
 (cond (Q5 .lss r_0 55296)
 (some true)
 (cond (Q5 .lss 57343 r_0)
 (cond (Q5 .leq r_0 1114111)
 (some true)
 (some false))
 (some false)))
 (cond (Q5 .lss 57343 r_0)
 (cond (Q5 .leq r_0 1114111)
 (some true)
 (some false))
 (some false))
theorem Q2s {N} {r_0} {r} (h:Xr N r_0=some r):pU 183 [.int .i32 r_0] (.bool r):=by
 refine Q3 Z7h ?_;unfold Xr at h;rw [cX] at h;apply iU h<;>intro h
 ·refine iL h fun h=>?_;refine iR h fun h=>?_;exact iB h
 refine iR h fun h=>?_;exact iB h
def Zz (N:Nat) (s_0:List UInt8):Nat→Nat→Option Int
 | 0,_=>none
 | n+1,pos13=>
  cond (Nat.blt pos13 s_0.length)
  (cond (Q5 .eql (((Q9u s_0 pos13).1:Nat):Int) 65533)
  (some ((pos13:Nat):Int))
  (Zz N s_0 n (pos13+(Q9u s_0 pos13).2)))
  (some (-1))
def Wd (N:Nat) (s_0:List UInt8) (r_1:Int) (v82:Int):Nat→Int→Option Int
 | 0,_=>none
 | n+1,j98=>
  cond (Q5 .lss j98 (((Utf8.encode r_1).data.toList).length:Int))
  ((idx s_0 (wrap .i64 ((wrap .i64 ((wrap .i64 ((((Utf8.encode r_1).data.toList).length:Int) - 1))+(wrap .i64 (v82+1)))) - j98))).bind fun b100=>
  (idx ((Utf8.encode r_1).data.toList) (wrap .i64 ((wrap .i64 ((((Utf8.encode r_1).data.toList).length:Int) - 1)) - j98))).bind fun b102=>
  cond (Q5 .neq (b100.toNat:Int) (b102.toNat:Int))
  (none)
  (Wd N s_0 r_1 v82 n (wrap .i64 (j98+1))))
  (some (wrap .i64 ((wrap .i64 ((wrap .i64 ((((Utf8.encode r_1).data.toList).length:Int) - 1))+(wrap .i64 (v82+1)))) - (wrap .i64 ((((Utf8.encode r_1).data.toList).length:Int) - 1)))))
def Wg (N:Nat) (s_0:List UInt8) (r_1:Int):Nat→Int→Option Int
 | 0,_=>none
 | n+1,j118=>
  cond (Q5 .lss j118 (((Utf8.encode r_1).data.toList).length:Int))
  ((idx s_0 (wrap .i64 ((wrap .i64 ((((Utf8.encode r_1).data.toList).length:Int) - 1)) - j118))).bind fun b120=>
  (idx ((Utf8.encode r_1).data.toList) (wrap .i64 ((wrap .i64 ((((Utf8.encode r_1).data.toList).length:Int) - 1)) - j118))).bind fun b122=>
  cond (Q5 .neq (b120.toNat:Int) (b122.toNat:Int))
  (none)
  (Wg N s_0 r_1 n (wrap .i64 (j118+1))))
  (some (wrap .i64 ((wrap .i64 ((((Utf8.encode r_1).data.toList).length:Int) - 1)) - (wrap .i64 ((((Utf8.encode r_1).data.toList).length:Int) - 1)))))
def Xf (N:Nat) (s_0:List UInt8) (r_1:Int):Nat→Option Int
 | 0=>none
 | n+1=>
  cond (Q5 .lss (wrap .i64 ((((Utf8.encode r_1).data.toList).length:Int) - 1)) (s_0.length:Int))
  ((idx s_0 (wrap .i64 ((((Utf8.encode r_1).data.toList).length:Int) - 1))).bind fun b73=>
  (idx ((Utf8.encode r_1).data.toList) (wrap .i64 ((((Utf8.encode r_1).data.toList).length:Int) - 1))).bind fun b75=>
  cond (Q5 .neq (b73.toNat:Int) (b75.toNat:Int))
  (cond (decide (0≤(wrap .i64 ((wrap .i64 ((((Utf8.encode r_1).data.toList).length:Int) - 1))+1)))) (cond (Nat.ble (wrap .i64 ((wrap .i64 ((((Utf8.encode r_1).data.toList).length:Int) - 1))+1)).toNat s_0.length&&Nat.ble s_0.length s_0.length) ((idx ((Utf8.encode r_1).data.toList) (wrap .i64 ((((Utf8.encode r_1).data.toList).length:Int) - 1))).bind fun b80=>
  (Uv N ((s_0.take s_0.length).drop ((wrap .i64 ((wrap .i64 ((((Utf8.encode r_1).data.toList).length:Int) - 1))+1)).toNat)) (b80.toNat:Int)).bind fun v82=>
  cond (Q5 .lss v82 0)
  (some (-1))
  (Wd N s_0 r_1 v82 N 1)) none) none)
  (Wg N s_0 r_1 N 1))
  (some (-1))
def Wc (N:Nat) (s_0:List UInt8) (r_1:Int) (s2:Bool):Option Int:=
 cond s2
 ((Uv N s_0 (wrap .u8 r_1)).bind fun v5=>
 some v5)
 (cond (Q5 .eql r_1 65533)
 (Zz N s_0 N 0)
 ((Xr N r_1).bind fun v16=>
 cond (!v16)
 (some (-1))
 (Xf N s_0 r_1 N)))
def Ux (N:Nat) (s_0:List UInt8) (r_1:Int):Option Int:=
 cond (Q5 .leq 0 r_1)
 (Wc N s_0 r_1 (Q5 .lss r_1 128))
 (Wc N s_0 r_1 false)
theorem Q56 {N} {s_0} {r_1} {r} (h:Ux N s_0 r_1=some r):pU 145 [.str s_0,.int .i32 r_1] (.int .i64 r):=by
 refine Q3 Zbp ?_;unfold Ux at h;rw [cX] at h;refine jrH (r:=r) (σ:=Bool) (fun s2=>(iS s_0 :: .p (.int .i32 r_1)::a16 (a16 (a16 (a16 (a16 (a16 (a16 (a16 (a16 (a8 (a4 (a2 (.p (.bool s2)::a16 (a8 (a2 ([]))))))))))))))):List AV)) (fun s2=>Wc N s_0 r_1 s2) ?_ ?_
 ·apply iU h<;>intro h
  ·show Exists _;exact ⟨((Qm1 .lss r_1 128)),h,(fun i=>i),Yr⟩
  show Exists _;exact ⟨(false),h,(fun i=>i),Yr⟩
 rintro s2 h
 unfold Wc at h;rw [cX] at h;apply iU h<;>intro h
 ·refine cP h Q0p p2 fun v5 h=>?_;cases h;exact (.p _)
 apply iU h<;>intro h
 ·refine lpA (τ:=Nat) (fun _=>(a16 (a16 (a16 (a16 (a16 (a16 (a16 (a16 (a16 (a16 (a8 (a4 (a2 (.any :: .ptr 0 0::a8 (a2 (.any :: []))))))))))))))):List AV)) (fun pos13=>(.strIter s_0 pos13 :: []:List AObj)) (fun n1 pos13=>Zz N s_0 n1 pos13) (0) h fun n1 pos13 h=>?_
  first | rw [Zz] at h | simp only [Zz] at h
  rw [cX] at h;refine iR h fun h=>?_;refine iL h fun h=>?_;show Exists _;exact ⟨(n1,(pos13+(Q9u s_0 pos13).2)),h,Lg _,(fun i=>i),Yr⟩
 refine cP h Q2s p1 fun v16 h=>?_;refine iL h fun h=>?_;refine lpH (τ:=Unit) (fun _=>(iS s_0::a4 (a2 (iS ((Utf8.encode r_1).data.toList) :: .p (.int .i64 (wrap .i64 ((((Utf8.encode r_1).data.toList).length:Int) - 1))) :: .p (.int .i64 (wrap .i64 ((((Utf8.encode r_1).data.toList).length:Int) - 1)))::a16 (a16 (a16 (a16 (a16 (a16 (a16 (a16 (a16 (a16 (a16 (.any :: []))))))))))))):List AV)) (fun n2 ⟨⟩=>Xf N s_0 r_1 n2) () h fun n2 ⟨⟩ h=>?_
 first | rw [Xf] at h | simp only [Xf] at h
 rw [cX] at h;refine iR h fun h=>?_;refine Qk ?_;refine xB h fun b73 h=>?_;refine xB h fun b75 h=>?_;apply iU h<;>intro h
 ·refine Qk ?_;refine kU h fun h=>?_;refine kU h fun h=>?_;refine xB h fun b80 h=>?_;refine cD h Q0p p2 fun v82 h=>?_;refine iL h fun h=>?_;refine lpH (τ:=Int) (fun j98=>(iS s_0::a4 (a2 (iS ((Utf8.encode r_1).data.toList) :: .p (.int .i64 (wrap .i64 ((((Utf8.encode r_1).data.toList).length:Int) - 1))) :: .p (.int .i64 (wrap .i64 ((wrap .i64 ((((Utf8.encode r_1).data.toList).length:Int) - 1))+(wrap .i64 (v82+1))))) :: .any :: .any::iI j98::a16 (a16 (a16 (a16 (a16 (a16 (a16 (a16 (a16 (a16 (a8 (a4 (a2 ([]))))))))))))))):List AV)) (fun n3 j98=>Wd N s_0 r_1 v82 n3 j98) (1) h fun n3 j98 h=>?_
  first | rw [Wd] at h | simp only [Wd] at h
  rw [cX] at h;refine iR h fun h=>?_;refine Qk ?_;refine xB h fun b100 h=>?_;refine xB h fun b102 h=>?_;apply iU h<;>intro h
  ·first | (cases h;done) | (simp [Vt] at h;done)
  show Exists _;exact ⟨(n3,(wrap .i64 (j98+1))),h,Lg _,(fun i=>i),Yr⟩
 refine lpH (τ:=Int) (fun j118=>(iS s_0::a4 (a2 (iS ((Utf8.encode r_1).data.toList) :: .p (.int .i64 (wrap .i64 ((((Utf8.encode r_1).data.toList).length:Int) - 1))) :: .p (.int .i64 (wrap .i64 ((((Utf8.encode r_1).data.toList).length:Int) - 1))) :: .any :: .any::iI j118::a16 (a16 (a16 (a16 (a16 (a16 (a16 (a16 (a16 (a16 (a8 (a4 (a2 ([]))))))))))))))):List AV)) (fun n4 j118=>Wg N s_0 r_1 n4 j118) (1) h fun n4 j118 h=>?_
 first | rw [Wg] at h | simp only [Wg] at h
 rw [cX] at h;refine iR h fun h=>?_;refine Qk ?_;refine xB h fun b120 h=>?_;refine xB h fun b122 h=>?_;apply iU h<;>intro h
 ·first | (cases h;done) | (simp [Vt] at h;done)
 show Exists _;exact ⟨(n4,(wrap .i64 (j118+1))),h,Lg _,(fun i=>i),Yr⟩
def Vh (_N:Nat) (bufLen:Int):Option Bool:=
 some (Q5 .gtr bufLen 8)
theorem Q1f {N} {bufLen} {r} (h:Vh N bufLen=some r):pU 146 [.int .i64 bufLen] (.bool r):=by
 refine Q3 Z1w ?_;unfold Vh at h;rw [cX] at h;cases h;exact (.p _)
def Yx (N:Nat) (s_0:List UInt8):Nat→Int→Option Int
 | 0,_=>none
 | n+1,i20=>
  cond (Q5 .lss i20 (s_0.length:Int))
  ((idx s_0 i20).bind fun b22=>
  cond (decide (0≤(b22.toNat:Int))&&decide ((b22.toNat:Int)<((256:Nat):Int))) ((idx ([false,false,false,false,false,false,false,false,false,false,false,false,false,false,false,false,false,false,false,false,false,false,false,false,false,false,false,false,false,false,false,false,false,false,false,true,false,false,false,false,false,false,false,true,false,false,false,false,false,false,false,false,false,false,false,false,false,false,false,false,false,false,false,false,false,false,false,false,false,false,false,false,false,false,false,false,false,false,false,false,false,false,false,false,false,false,false,false,false,false,false,false,false,false,false,false,false,false,false,false,false,false,false,false,false,false,false,false,false,false,false,false,false,false,false,false,false,false,false,false,false,false,false,false,false,false,false,false,false,false,false,false,false,false,false,false,false,false,false,false,false,false,false,false,false,false,false,false,false,false,false,false,false,false,false,false,false,false,false,false,false,false,false,false,false,false,false,false,false,false,false,false,false,false,false,false,false,false,false,false,false,false,false,false,false,false,false,false,false,false,false,false,false,false,false,false,false,false,false,false,false,false,false,false,false,false,false,false,false,false,false,false,false,false,false,false,false,false,false,false,false,false,false,false,false,false,false,false,false,false,false,false,false,false,false,false,false,false,false,false,false,false,false,false,false,false,false,false,false,false,false,false,false,false,false,false]:List Bool) (b22.toNat:Int)).bind fun y24=>
  cond y24
  (some i20)
  (Yx N s_0 n (wrap .i64 (i20+1)))) none)
  (some (-1))
def Yw (N:Nat) (s_0:List UInt8):Nat→Nat→Option Int
 | 0,_=>none
 | n+1,pos37=>
  cond (Nat.blt pos37 s_0.length)
  ((Ux N [43,35] (((Q9u s_0 pos37).1:Nat):Int)).bind fun v39=>
  cond (Q5 .geq v39 0)
  (some ((pos37:Nat):Int))
  (Yw N s_0 n (pos37+(Q9u s_0 pos37).2)))
  (some (-1))
def U0 (N:Nat) (s_0:List UInt8):Option Int:=
 cond (Q0m .eql [43,35] [])
 (some (-1))
 ((Vh N (s_0.length:Int)).bind fun v2=>
 cond v2
 (Yx N s_0 N 0)
 (Yw N s_0 N 0))
theorem Q3w {N} {s_0} {r} (h:U0 N s_0=some r):pU 114 [.str s_0,.str [43,35]] (.int .i64 r):=by
 refine Q3 Z3b ?_;unfold U0 at h;rw [cY] at h;refine iL h fun h=>?_;refine dF ?_;refine cP h Q1f p1 fun v2 h=>?_;apply iU h<;>intro h
 ·refine Qf Z9h ?_;refine Qx 4 ?_;refine dT ?_;refine dF ?_;refine dT ?_;refine dF ?_;refine dF ?_;refine lpH (τ:=Int) (fun i20=>(iS s_0::a4 (.any :: .ptr 1 0 :: .any::iI i20::a16 (a16 (a8 (a4 (a2 ([])))))):List AV)) (fun n0 i20=>Yx N s_0 n0 i20) (0) h fun n0 i20 h=>?_
  first | rw [Yx] at h | simp only [Yx] at h
  rw [cX] at h;refine iR h fun h=>?_;refine xB h fun b22 h=>?_;refine Qf Z9y ?_;refine kU h fun h=>?_;obtain ⟨y24,hy25,h⟩:=Q01 h
  refine Q73 (c:=cB) (e:=1) (fun _=>rfl) hy25 (off:=0) (by decide) (by first | omega | (simp only [Qak,orI,Qtb,Q63,Qc0,Qkt];omega)) ?_
  refine iL h fun h=>?_;show Exists _;exact ⟨(n0,(wrap .i64 (i20+1))),h,Lg _,(fun i=>i),Yr⟩
 refine lpA (τ:=Nat) (fun _=>(.any :: .p (.str [43,35])::a16 (a16 (a8 (a2 (.any :: .ptr 0 0::a8 (.any :: []))))):List AV)) (fun pos37=>(.strIter s_0 pos37 :: []:List AObj)) (fun n1 pos37=>Yw N s_0 n1 pos37) (0) h fun n1 pos37 h=>?_
 first | rw [Yw] at h | simp only [Yw] at h
 rw [cX] at h;refine iR h fun h=>?_;refine cP h Q56 p2 fun v39 h=>?_;refine iL h fun h=>?_;show Exists _;exact ⟨(n1,(pos37+(Q9u s_0 pos37).2)),h,Lg _,(fun i=>i),Yr⟩
def Ww (N:Nat) (s_0:List UInt8):Option Bool:=
 (U0 N s_0).bind fun v1=>
 some (Q5 .geq v1 0)
theorem Q2p {N} {s_0} {r} (h:Ww N s_0=some r):pU 90 [.str s_0,.str [43,35]] (.bool r):=by
 refine Q3 k90 ?_;unfold Ww at h;rw [cX] at h;refine cP h Q3w p2 fun v1 h=>?_;cases h;exact (.p _)
def Yq (N:Nat) (s_0:List UInt8):Option Bool:=
 (Q30 N s_0).bind fun v1=>
 cond v1
 ((Ww N s_0).bind fun v4=>
 some (!v4))
 (some false)
theorem Xi {N} {s_0} {r} (h:Yq N s_0=some r):pU 45 [.str s_0] (.bool r):=by
 refine Q3 k45 ?_;unfold Yq at h;refine cP h Qbo p1 fun v1 h=>?_;refine iR h fun h=>?_;refine cP h Q2p p2 fun v4 h=>?_;cases h;exact (.p _)
def J9 (N:Nat) (R:Reg) (c n:List UInt8):Option ((Int×Bool×Int)×Reg):=(Yq N n).bind fun b=>if WR R then some (Qnk b R c n) else none
theorem Q3p {N R c n r} (h:J9 N R c n=some r):Q2x Tryz.prog G1 25 R [.str c,.str n] (.tuple [.int .i64 r.1.1,.bool r.1.2.1,.int .i64 r.1.2.2]) r.2:=by
 obtain ⟨b,hb,h⟩:=Q01 h;split at h
 ·cases h;exact Qvi (by assumption) (Xi hb)
 cases h
def Z6 (N:Nat) (r_0:Q1) (client:List UInt8):Nat→Int→Option ((List Zf)×Q1)
 | 0,_=>none
 | n+1,i18=>
  cond (Q5 .lss i18 ((Q9 Q0.cells r_0.L).length:Int))
  ((idx r_0.L i18).bind fun y20=>
  cond (Q0m .eql y20.client client)
  ((idx r_0.L i18).bind fun y23=>
  cond (Nat.beq (Q9 Zf.cells y23.l).length 0)
  (some ([],r_0))
  (cond (Nat.ble ((0+(Q9 Zf.cells y23.l).length+4096) * 32) 17592186044416) (some ((([]:List Zf)++y23.l),r_0)) none))
  (Z6 N r_0 client n (wrap .i64 (i18+1))))
  (some ([],r_0))
def Zw (N:Nat) (r_0:Q1) (client:List UInt8):Option ((List Zf)×Q1):=
 Z6 N r_0 client N 0
theorem Vp {N} {r_0} {client} {r} (h:Zw N r_0 client=some r):Qnf Tryz.prog G1 49 (Q1.cells r_0) [.str client] (.slice 3 (Q9 Zf.cells r.1)) (Q1.cells r.2):=by
 refine Q3n k49 ?_;unfold Zw at h;refine lpH (τ:=Int) (fun i18=>(.ptr 0 0::iS client::a2 (.any::iI i18::a16 (a8 (a4 (.any :: [])))):List AV)) (fun n0 i18=>Z6 N r_0 client n0 i18) (0) h fun n0 i18 h=>?_
 first | rw [Z6] at h | simp only [Z6] at h
 rw [cX,cY] at h;apply iU h<;>intro h
 ·refine xR h fun y20 h=>?_;apply iU h<;>intro h
  ·refine xR h fun y23 h=>?_;refine Qbm (c:=Zf.cells) (vs:=y23.l) rfl ?_;apply iU h<;>intro h
   ·obtain rfl:=Qv h;exact ⟨_,_,rfl,p1,(frz_own (c:=Zf.cells) (l:=([]:List Zf)) (fun _=>rfl) rfl (by decide) sd)⟩
   obtain ⟨hk25,h⟩:=Q54 h;refine Q2t (Xj (c:=Zf.cells) (e:=3) (l:=([]:List Zf)) (fun _=>rfl) sd hk25) ?_;obtain rfl:=Qv h;exact ⟨_,_,rfl,p1,(frz_own (c:=Zf.cells) (l:=((([]:List Zf)++y23.l):List Zf)) (fun _=>rfl) rfl (by decide) sd)⟩
  show Exists _;exact ⟨(n0,(wrap .i64 (i18+1))),h,Lg _,(fun i=>i),Yr⟩
 obtain rfl:=Qv h;exact ⟨_,_,rfl,p1,(.nil _)⟩
def Q7 (N:Nat) (r_0:Q1) (client:List UInt8) (l:List Zf):Nat→Bool→Int→(List Q0)→Option ((Unit)×Q1)
 | 0,_,_,_=>none
 | n+1,in24,i25,l26=>
  cond (Q5 .lss i25 ((Q9 Q0.cells r_0.L).length:Int))
  ((idx r_0.L i25).bind fun y28=>
  cond (!in24)
  (cond (Q0m .lss client y28.client)
  (cond (Nat.ble ((l26.length+1+4096) * 40) 17592186044416) (cond (Q0m .neq y28.client client)
  (cond (Nat.ble (((l26.length+1)+1+4096) * 40) 17592186044416) (Q7 N r_0 client l n true (wrap .i64 (i25+1)) ((l26 ++ [(⟨client,l⟩:Q0)]) ++ [y28])) none)
  (Q7 N r_0 client l n true (wrap .i64 (i25+1)) (l26 ++ [(⟨client,l⟩:Q0)]))) none)
  (cond (Q0m .neq y28.client client)
  (cond (Nat.ble ((l26.length+1+4096) * 40) 17592186044416) (Q7 N r_0 client l n in24 (wrap .i64 (i25+1)) (l26 ++ [y28])) none)
  (Q7 N r_0 client l n in24 (wrap .i64 (i25+1)) l26)))
  (cond (Q0m .neq y28.client client)
  (cond (Nat.ble ((l26.length+1+4096) * 40) 17592186044416) (Q7 N r_0 client l n in24 (wrap .i64 (i25+1)) (l26 ++ [y28])) none)
  (Q7 N r_0 client l n in24 (wrap .i64 (i25+1)) l26)))
  (cond (!in24)
  (cond (Nat.ble ((l26.length+1+4096) * 40) 17592186044416) (some ((),(⟨(l26 ++ [(⟨client,l⟩:Q0)])⟩:Q1))) none)
  (some ((),(⟨l26⟩:Q1))))
def Y6 (N:Nat) (r_0:Q1) (client:List UInt8) (l:List Zf):Option ((Unit)×Q1):=
 Q7 N r_0 client l N (Q5 .eql ((Q9 Zf.cells l).length:Int) 0) 0 []
theorem Ui {N} {r_0} {client} {l} {r} (h:Y6 N r_0 client l=some r):Qnf Tryz.prog G1 50 (Q1.cells r_0) [.str client,.slice 3 (Q9 Zf.cells l)] (.tuple []) (Q1.cells r.2):=by
 refine Q3n k50 ?_;unfold Y6 at h;rw [cX] at h;refine lpA (τ:=Bool×Int×(List Q0)) (fun ⟨in24,i25,l26⟩=>(.ptr 0 0::iS client :: .p (.slice 3 (Q9 Zf.cells l))::a2 (.any :: .slice 2 1 0 l26.length :: .p (.bool in24)::iI i25::a16 (a16 (a16 (a4 (a2 ([])))))):List AV)) (fun ⟨_,_,l26⟩=>(.cells (.p (.slice 2 (Q9 Q0.cells r_0.L)) :: []) :: .cells (W8 Q0.cells l26) :: []:List AObj)) (fun n0 ⟨in24,i25,l26⟩=>Q7 N r_0 client l n0 in24 i25 l26) ((Qm1 .eql ((Q9 Zf.cells l).length:Int) 0),0,[]) h fun n0 ⟨in24,i25,l26⟩ h=>?_
 first | rw [Q7] at h | simp only [Q7] at h
 rw [cX,cY] at h;apply iU h<;>intro h
 ·refine xR h fun y28 h=>?_;apply iU h<;>intro h
  ·apply iU h<;>intro h
   ·obtain ⟨hk32,h⟩:=Q54 h;refine Q2t (Xj (c:=Q0.cells) (e:=2) (fun _=>rfl) sd hk32) ?_;refine Un (c:=Q0.cells) [(⟨client,l⟩:Q0)] rfl ?_;apply iU h<;>intro h
    ·obtain ⟨hk34,h⟩:=Q54 h;refine Q2t (Xj (c:=Q0.cells) (e:=2) (fun _=>rfl) sd hk34) ?_;refine Un (c:=Q0.cells) [y28] rfl ?_;show Exists _;exact ⟨(n0,true,(wrap .i64 (i25+1)),((l26 ++ [(⟨client,l⟩:Q0)]) ++ [y28])),h,Lg _,(rho [0,6]),Yr⟩
    show Exists _;exact ⟨(n0,true,(wrap .i64 (i25+1)),(l26 ++ [(⟨client,l⟩:Q0)])),h,Lg _,(rho [0,4]),Yr⟩
   apply iU h<;>intro h
   ·obtain ⟨hk36,h⟩:=Q54 h;refine Q2t (Xj (c:=Q0.cells) (e:=2) (fun _=>rfl) sd hk36) ?_;refine Un (c:=Q0.cells) [y28] rfl ?_;show Exists _;exact ⟨(n0,in24,(wrap .i64 (i25+1)),(l26 ++ [y28])),h,Lg _,(rho [0,4]),Yr⟩
   show Exists _;exact ⟨(n0,in24,(wrap .i64 (i25+1)),l26),h,Lg _,(fun i=>i),Yr⟩
  apply iU h<;>intro h
  ·obtain ⟨hk38,h⟩:=Q54 h;refine Q2t (Xj (c:=Q0.cells) (e:=2) (fun _=>rfl) sd hk38) ?_;refine Un (c:=Q0.cells) [y28] rfl ?_;show Exists _;exact ⟨(n0,in24,(wrap .i64 (i25+1)),(l26 ++ [y28])),h,Lg _,(rho [0,4]),Yr⟩
  show Exists _;exact ⟨(n0,in24,(wrap .i64 (i25+1)),l26),h,Lg _,(fun i=>i),Yr⟩
 apply iU h<;>intro h
 ·obtain ⟨hk40,h⟩:=Q54 h;refine Q2t (Xj (c:=Q0.cells) (e:=2) (fun _=>rfl) sd hk40) ?_;refine Un (c:=Q0.cells) [(⟨client,l⟩:Q0)] rfl ?_
  obtain rfl:=Qv h;exact ⟨_,_,rfl,(.cons (frz_own (c:=Q0.cells) (l:=((l26 ++ [(⟨client,l⟩:Q0)]):List Q0)) (fun _=>rfl) rfl (by decide) sd) .nil),(by first | exact .p _ | exact .tuple _ _ rfl (fun i v x h=>by simp at h))⟩
 obtain rfl:=Qv h;exact ⟨_,_,rfl,(.cons (frz_own (c:=Q0.cells) (l:=(l26:List Q0)) (fun _=>rfl) rfl (by decide) sd) .nil),(by first | exact .p _ | exact .tuple _ _ rfl (fun i v x h=>by simp at h))⟩
def Zh (N:Nat) (l:List Zf) (t:Zf):Nat→Bool→Int→(List Zf)→Option (List Zf)
 | 0,_,_,_=>none
 | n+1,in27,i28,l29=>
  cond (Q5 .lss i28 ((Q9 Zf.cells l).length:Int))
  (cond (!in27)
  ((idx l i28).bind fun y32=>
  cond (Q5 .lss t.ID y32.ID)
  (cond (Nat.ble ((l29.length+1+4096) * 32) 17592186044416) ((idx l i28).bind fun y36=>
  cond (Nat.ble (((l29.length+1)+1+4096) * 32) 17592186044416) (Zh N l t n true (wrap .i64 (i28+1)) ((l29 ++ [t]) ++ [y36])) none) none)
  ((idx l i28).bind fun y39=>
  cond (Nat.ble ((l29.length+1+4096) * 32) 17592186044416) (Zh N l t n in27 (wrap .i64 (i28+1)) (l29 ++ [y39])) none))
  ((idx l i28).bind fun y42=>
  cond (Nat.ble ((l29.length+1+4096) * 32) 17592186044416) (Zh N l t n in27 (wrap .i64 (i28+1)) (l29 ++ [y42])) none))
  (cond (!in27)
  (cond (Nat.ble ((l29.length+1+4096) * 32) 17592186044416) (some (l29 ++ [t])) none)
  (some l29))
def Wi (N:Nat) (l:List Zf) (t:Zf):Option (List Zf):=
 Zh N l t N false 0 []
theorem Q0n {N} {l} {t} {r} (h:Wi N l t=some r):pU 51 [.slice 3 (Q9 Zf.cells l),.agg (Zf.cells t)] (.slice 3 (Q9 Zf.cells r)):=by
 refine Q3 k51 ?_;unfold Wi at h;refine lpA (τ:=Bool×Int×(List Zf)) (fun ⟨in27,i28,l29⟩=>(.p (.slice 3 (Q9 Zf.cells l)) :: .any :: .any :: .ptr 0 0 :: .any :: .slice 3 1 0 l29.length :: .p (.bool in27)::iI i28::a16 (a16 (a4 ([]))):List AV)) (fun ⟨_,_,l29⟩=>(.cells (iI t.ID::iS t.Name :: .p (.bool t.Fixed) :: []) :: .cells (W8 Zf.cells l29) :: []:List AObj)) (fun n0 ⟨in27,i28,l29⟩=>Zh N l t n0 in27 i28 l29) (false,0,[]) h fun n0 ⟨in27,i28,l29⟩ h=>?_
 first | rw [Zh] at h | simp only [Zh] at h
 rw [cX] at h;apply iU h<;>intro h
 ·refine Qk ?_;apply iU h<;>intro h
  ·refine xR h fun y32 h=>?_;apply iU h<;>intro h
   ·obtain ⟨hk35,h⟩:=Q54 h;refine Q2t (Xj (c:=Zf.cells) (e:=3) (fun _=>rfl) sd hk35) ?_;refine Un (c:=Zf.cells) [t] rfl ?_;refine xR h fun y36 h=>?_;obtain ⟨hk38,h⟩:=Q54 h;refine Q2t (Xj (c:=Zf.cells) (e:=3) (fun _=>rfl) sd hk38) ?_;refine Un (c:=Zf.cells) [y36] rfl ?_;show Exists _;exact ⟨(n0,true,(wrap .i64 (i28+1)),((l29 ++ [t]) ++ [y36])),h,Lg _,(rho [0,5]),Yr⟩
   refine xR h fun y39 h=>?_;obtain ⟨hk41,h⟩:=Q54 h;refine Q2t (Xj (c:=Zf.cells) (e:=3) (fun _=>rfl) sd hk41) ?_;refine Un (c:=Zf.cells) [y39] rfl ?_;show Exists _;exact ⟨(n0,in27,(wrap .i64 (i28+1)),(l29 ++ [y39])),h,Lg _,(rho [0,3]),Yr⟩
  refine xR h fun y42 h=>?_;obtain ⟨hk44,h⟩:=Q54 h;refine Q2t (Xj (c:=Zf.cells) (e:=3) (fun _=>rfl) sd hk44) ?_;refine Un (c:=Zf.cells) [y42] rfl ?_;show Exists _;exact ⟨(n0,in27,(wrap .i64 (i28+1)),(l29 ++ [y42])),h,Lg _,(rho [0,3]),Yr⟩
 apply iU h<;>intro h
 ·obtain ⟨hk46,h⟩:=Q54 h;refine Q2t (Xj (c:=Zf.cells) (e:=3) (fun _=>rfl) sd hk46) ?_;refine Un (c:=Zf.cells) [t] rfl ?_;obtain rfl:=Qv h;exact (frz_own (c:=Zf.cells) (l:=((l29 ++ [t]):List Zf)) (fun _=>rfl) rfl trivial sd)
 obtain rfl:=Qv h;exact (frz_own (c:=Zf.cells) (l:=(l29:List Zf)) (fun _=>rfl) rfl trivial sd)
def Zs (_N:Nat) (s_0:List UInt8) (at_1:Int):Option (Int×Bool):=
 cond (Q5 .geq at_1 (s_0.length:Int))
 (some (0,false))
 ((idx s_0 at_1).bind fun b2=>
 cond (Q5 .lss (b2.toNat:Int) 128)
 (some (0,false))
 ((idx s_0 at_1).bind fun b5=>
 cond (Q5 .gtr (b5.toNat:Int) 191)
 (some (0,false))
 ((idx s_0 at_1).bind fun b8=>
 some ((wrap .i64 ((wrap .i64 (b8.toNat:Int)) - 128)),true))))
theorem Yj {N} {s_0} {at_1} {r} (h:Zs N s_0 at_1=some r):pU 171 [.str s_0,.int .i64 at_1] (.tuple [.int .i64 r.1,.bool r.2]):=by
 refine Q3 Z6s ?_;unfold Zs at h;rw [cX] at h;refine iL2 h fun h=>?_;refine xB h fun b2 h=>?_;refine iL2 h fun h=>?_;refine xB h fun b5 h=>?_;refine iL2 h fun h=>?_;refine xB h fun b8 h=>?_;obtain rfl:=Qv h;exact u2
def Z4 (N:Nat) (s_0:List UInt8) (at_1:Int):Nat→Int→Int→Option (Int×Int)
 | 0,_,_=>none
 | n+1,n15,i17=>
  cond (Q5 .lss i17 2)
  ((Zs N s_0 (wrap .i64 (at_1+i17))).bind fun v19=>
  cond (!v19.2)
  (some (0,0))
  (Z4 N s_0 at_1 n (wrap .i64 ((wrap .i64 (64 * n15))+v19.1)) (wrap .i64 (i17+1))))
  (cond (Q5 .lss n15 128)
  (some (0,0))
  (cond (Q5 .gtr n15 1114111)
  (some (0,0))
  (cond (Q5 .geq n15 55296)
  (cond (Q5 .leq n15 57343)
  (some (0,0))
  (some (n15,2)))
  (some (n15,2)))))
def Z3 (N:Nat) (s_0:List UInt8) (at_1:Int):Nat→Int→Int→Option (Int×Int)
 | 0,_,_=>none
 | n+1,n38,i39=>
  cond (Q5 .lss i39 3)
  ((Zs N s_0 (wrap .i64 (at_1+i39))).bind fun v41=>
  cond (!v41.2)
  (some (0,0))
  (Z3 N s_0 at_1 n (wrap .i64 ((wrap .i64 (64 * n38))+v41.1)) (wrap .i64 (i39+1))))
  (cond (Q5 .lss n38 2048)
  (some (0,0))
  (cond (Q5 .gtr n38 1114111)
  (some (0,0))
  (cond (Q5 .geq n38 55296)
  (cond (Q5 .leq n38 57343)
  (some (0,0))
  (some (n38,3)))
  (some (n38,3)))))
def Z2 (N:Nat) (s_0:List UInt8) (at_1:Int):Nat→Int→Int→Option (Int×Int)
 | 0,_,_=>none
 | n+1,n59,i60=>
  cond (Q5 .lss i60 4)
  ((Zs N s_0 (wrap .i64 (at_1+i60))).bind fun v62=>
  cond (!v62.2)
  (some (0,0))
  (Z2 N s_0 at_1 n (wrap .i64 ((wrap .i64 (64 * n59))+v62.1)) (wrap .i64 (i60+1))))
  (cond (Q5 .lss n59 65536)
  (some (0,0))
  (cond (Q5 .gtr n59 1114111)
  (some (0,0))
  (cond (Q5 .geq n59 55296)
  (cond (Q5 .leq n59 57343)
  (some (0,0))
  (some (n59,4)))
  (some (n59,4)))))
def Xl (N:Nat) (s_0:List UInt8) (at_1:Int):Nat→Int→Int→Option (Int×Int)
 | 0,_,_=>none
 | n+1,n80,i81=>
  cond (Q5 .lss i81 4)
  ((Zs N s_0 (wrap .i64 (at_1+i81))).bind fun v83=>
  cond (!v83.2)
  (some (0,0))
  (Xl N s_0 at_1 n (wrap .i64 ((wrap .i64 (64 * n80))+v83.1)) (wrap .i64 (i81+1))))
  (cond (Q5 .lss n80 65536)
  (some (0,0))
  (cond (Q5 .gtr n80 1114111)
  (some (0,0))
  (cond (Q5 .geq n80 55296)
  (cond (Q5 .leq n80 57343)
  (some (0,0))
  (some (n80,4)))
  (some (n80,4)))))
def Xo (N:Nat) (s_0:List UInt8) (at_1:Int):Nat→Int→Int→Option (Int×Int)
 | 0,_,_=>none
 | n+1,n101,i102=>
  cond (Q5 .lss i102 3)
  ((Zs N s_0 (wrap .i64 (at_1+i102))).bind fun v104=>
  cond (!v104.2)
  (some (0,0))
  (Xo N s_0 at_1 n (wrap .i64 ((wrap .i64 (64 * n101))+v104.1)) (wrap .i64 (i102+1))))
  (cond (Q5 .lss n101 2048)
  (some (0,0))
  (cond (Q5 .gtr n101 1114111)
  (some (0,0))
  (cond (Q5 .geq n101 55296)
  (cond (Q5 .leq n101 57343)
  (some (0,0))
  (some (n101,3)))
  (some (n101,3)))))
def Xp (N:Nat) (s_0:List UInt8) (at_1:Int):Nat→Int→Int→Option (Int×Int)
 | 0,_,_=>none
 | n+1,n122,i123=>
  cond (Q5 .lss i123 4)
  ((Zs N s_0 (wrap .i64 (at_1+i123))).bind fun v125=>
  cond (!v125.2)
  (some (0,0))
  (Xp N s_0 at_1 n (wrap .i64 ((wrap .i64 (64 * n122))+v125.1)) (wrap .i64 (i123+1))))
  (cond (Q5 .lss n122 65536)
  (some (0,0))
  (cond (Q5 .gtr n122 1114111)
  (some (0,0))
  (cond (Q5 .geq n122 55296)
  (cond (Q5 .leq n122 57343)
  (some (0,0))
  (some (n122,4)))
  (some (n122,4)))))
def Xq (N:Nat) (s_0:List UInt8) (at_1:Int):Nat→Int→Int→Option (Int×Int)
 | 0,_,_=>none
 | n+1,n143,i144=>
  cond (Q5 .lss i144 4)
  ((Zs N s_0 (wrap .i64 (at_1+i144))).bind fun v146=>
  cond (!v146.2)
  (some (0,0))
  (Xq N s_0 at_1 n (wrap .i64 ((wrap .i64 (64 * n143))+v146.1)) (wrap .i64 (i144+1))))
  (cond (Q5 .lss n143 65536)
  (some (0,0))
  (cond (Q5 .gtr n143 1114111)
  (some (0,0))
  (cond (Q5 .geq n143 55296)
  (cond (Q5 .leq n143 57343)
  (some (0,0))
  (some (n143,4)))
  (some (n143,4)))))
def Xm (N:Nat) (s_0:List UInt8) (at_1:Int):Option (Int×Int):=
 (idx s_0 at_1).bind fun b1=>
 cond (Q5 .lss (wrap .i64 (b1.toNat:Int)) 128)
 (some ((wrap .i64 (b1.toNat:Int)),1))
 (cond (Q5 .geq (wrap .i64 (b1.toNat:Int)) 192)
 (cond (Q5 .lss (wrap .i64 (b1.toNat:Int)) 224)
 (Z4 N s_0 at_1 N (wrap .i64 ((wrap .i64 (b1.toNat:Int)) - 192)) 1)
 (cond (Q5 .geq (wrap .i64 (b1.toNat:Int)) 224)
 (cond (Q5 .lss (wrap .i64 (b1.toNat:Int)) 240)
 (Z3 N s_0 at_1 N (wrap .i64 ((wrap .i64 (b1.toNat:Int)) - 224)) 1)
 (cond (Q5 .geq (wrap .i64 (b1.toNat:Int)) 240)
 (cond (Q5 .lss (wrap .i64 (b1.toNat:Int)) 248)
 (Z2 N s_0 at_1 N (wrap .i64 ((wrap .i64 (b1.toNat:Int)) - 240)) 1)
 (some (0,0)))
 (some (0,0))))
 (cond (Q5 .geq (wrap .i64 (b1.toNat:Int)) 240)
 (cond (Q5 .lss (wrap .i64 (b1.toNat:Int)) 248)
 (Xl N s_0 at_1 N (wrap .i64 ((wrap .i64 (b1.toNat:Int)) - 240)) 1)
 (some (0,0)))
 (some (0,0)))))
 (cond (Q5 .geq (wrap .i64 (b1.toNat:Int)) 224)
 (cond (Q5 .lss (wrap .i64 (b1.toNat:Int)) 240)
 (Xo N s_0 at_1 N (wrap .i64 ((wrap .i64 (b1.toNat:Int)) - 224)) 1)
 (cond (Q5 .geq (wrap .i64 (b1.toNat:Int)) 240)
 (cond (Q5 .lss (wrap .i64 (b1.toNat:Int)) 248)
 (Xp N s_0 at_1 N (wrap .i64 ((wrap .i64 (b1.toNat:Int)) - 240)) 1)
 (some (0,0)))
 (some (0,0))))
 (cond (Q5 .geq (wrap .i64 (b1.toNat:Int)) 240)
 (cond (Q5 .lss (wrap .i64 (b1.toNat:Int)) 248)
 (Xq N s_0 at_1 N (wrap .i64 ((wrap .i64 (b1.toNat:Int)) - 240)) 1)
 (some (0,0)))
 (some (0,0)))))
theorem Q3l {N} {s_0} {at_1} {r} (h:Xm N s_0 at_1=some r):pU 132 [.str s_0,.int .i64 at_1] (.tuple [.int .i64 r.1,.int .i64 r.2]):=by
 refine Q3 Z8j ?_;unfold Xm at h;rw [cX] at h;refine xB h fun b1 h=>?_;refine iL2 h fun h=>?_;apply iU h<;>intro h
 ·apply iU h<;>intro h
  ·refine lpH (τ:=Int×Int) (fun ⟨n15,i17⟩=>(iS s_0::iI at_1::a4 (iI n15::iI 2::iI 128::iI i17::a16 (a16 (a16 (a16 (a8 (.any :: [])))))):List AV)) (fun n0 ⟨n15,i17⟩=>Z4 N s_0 at_1 n0 n15 i17) ((wrap .i64 ((wrap .i64 (b1.toNat:Int)) - 192)),1) h fun n0 ⟨n15,i17⟩ h=>?_
   first | rw [Z4] at h | simp only [Z4] at h
   rw [cX] at h;apply iU h<;>intro h
   ·refine cP h Yj p2 fun v19 h=>?_;refine iL2 h fun h=>?_;show Exists _;exact ⟨(n0,(wrap .i64 ((wrap .i64 (64 * n15))+v19.1)),(wrap .i64 (i17+1))),h,Lg _,(fun i=>i),Yr⟩
   refine iL2 h fun h=>?_;refine iL2 h fun h=>?_;refine iR2 h fun h=>?_;exact iB2 h
  apply iU h<;>intro h
  ·apply iU h<;>intro h
   ·refine lpH (τ:=Int×Int) (fun ⟨n38,i39⟩=>(iS s_0::iI at_1::a4 (iI n38::iI 3::iI 2048::iI i39::a16 (a16 (a16 (a16 (a8 (.any :: [])))))):List AV)) (fun n1 ⟨n38,i39⟩=>Z3 N s_0 at_1 n1 n38 i39) ((wrap .i64 ((wrap .i64 (b1.toNat:Int)) - 224)),1) h fun n1 ⟨n38,i39⟩ h=>?_
    first | rw [Z3] at h | simp only [Z3] at h
    rw [cX] at h;apply iU h<;>intro h
    ·refine cP h Yj p2 fun v41 h=>?_;refine iL2 h fun h=>?_;show Exists _;exact ⟨(n1,(wrap .i64 ((wrap .i64 (64 * n38))+v41.1)),(wrap .i64 (i39+1))),h,Lg _,(fun i=>i),Yr⟩
    refine iL2 h fun h=>?_;refine iL2 h fun h=>?_;refine iR2 h fun h=>?_;exact iB2 h
   refine iR2 h fun h=>?_;refine iR2 h fun h=>?_;refine lpH (τ:=Int×Int) (fun ⟨n59,i60⟩=>(iS s_0::iI at_1::a4 (iI n59::iI 4::iI 65536::iI i60::a16 (a16 (a16 (a16 (a8 (.any :: [])))))):List AV)) (fun n2 ⟨n59,i60⟩=>Z2 N s_0 at_1 n2 n59 i60) ((wrap .i64 ((wrap .i64 (b1.toNat:Int)) - 240)),1) h fun n2 ⟨n59,i60⟩ h=>?_
   first | rw [Z2] at h | simp only [Z2] at h
   rw [cX] at h;apply iU h<;>intro h
   ·refine cP h Yj p2 fun v62 h=>?_;refine iL2 h fun h=>?_;show Exists _;exact ⟨(n2,(wrap .i64 ((wrap .i64 (64 * n59))+v62.1)),(wrap .i64 (i60+1))),h,Lg _,(fun i=>i),Yr⟩
   refine iL2 h fun h=>?_;refine iL2 h fun h=>?_;refine iR2 h fun h=>?_;exact iB2 h
  refine iR2 h fun h=>?_;refine iR2 h fun h=>?_;refine lpH (τ:=Int×Int) (fun ⟨n80,i81⟩=>(iS s_0::iI at_1::a4 (iI n80::iI 4::iI 65536::iI i81::a16 (a16 (a16 (a16 (a8 (.any :: [])))))):List AV)) (fun n3 ⟨n80,i81⟩=>Xl N s_0 at_1 n3 n80 i81) ((wrap .i64 ((wrap .i64 (b1.toNat:Int)) - 240)),1) h fun n3 ⟨n80,i81⟩ h=>?_
  first | rw [Xl] at h | simp only [Xl] at h
  rw [cX] at h;apply iU h<;>intro h
  ·refine cP h Yj p2 fun v83 h=>?_;refine iL2 h fun h=>?_;show Exists _;exact ⟨(n3,(wrap .i64 ((wrap .i64 (64 * n80))+v83.1)),(wrap .i64 (i81+1))),h,Lg _,(fun i=>i),Yr⟩
  refine iL2 h fun h=>?_;refine iL2 h fun h=>?_;refine iR2 h fun h=>?_;exact iB2 h
 apply iU h<;>intro h
 ·apply iU h<;>intro h
  ·refine lpH (τ:=Int×Int) (fun ⟨n101,i102⟩=>(iS s_0::iI at_1::a4 (iI n101::iI 3::iI 2048::iI i102::a16 (a16 (a16 (a16 (a8 (.any :: [])))))):List AV)) (fun n4 ⟨n101,i102⟩=>Xo N s_0 at_1 n4 n101 i102) ((wrap .i64 ((wrap .i64 (b1.toNat:Int)) - 224)),1) h fun n4 ⟨n101,i102⟩ h=>?_
   first | rw [Xo] at h | simp only [Xo] at h
   rw [cX] at h;apply iU h<;>intro h
   ·refine cP h Yj p2 fun v104 h=>?_;refine iL2 h fun h=>?_;show Exists _;exact ⟨(n4,(wrap .i64 ((wrap .i64 (64 * n101))+v104.1)),(wrap .i64 (i102+1))),h,Lg _,(fun i=>i),Yr⟩
   refine iL2 h fun h=>?_;refine iL2 h fun h=>?_;refine iR2 h fun h=>?_;exact iB2 h
  refine iR2 h fun h=>?_;refine iR2 h fun h=>?_;refine lpH (τ:=Int×Int) (fun ⟨n122,i123⟩=>(iS s_0::iI at_1::a4 (iI n122::iI 4::iI 65536::iI i123::a16 (a16 (a16 (a16 (a8 (.any :: [])))))):List AV)) (fun n5 ⟨n122,i123⟩=>Xp N s_0 at_1 n5 n122 i123) ((wrap .i64 ((wrap .i64 (b1.toNat:Int)) - 240)),1) h fun n5 ⟨n122,i123⟩ h=>?_
  first | rw [Xp] at h | simp only [Xp] at h
  rw [cX] at h;apply iU h<;>intro h
  ·refine cP h Yj p2 fun v125 h=>?_;refine iL2 h fun h=>?_;show Exists _;exact ⟨(n5,(wrap .i64 ((wrap .i64 (64 * n122))+v125.1)),(wrap .i64 (i123+1))),h,Lg _,(fun i=>i),Yr⟩
  refine iL2 h fun h=>?_;refine iL2 h fun h=>?_;refine iR2 h fun h=>?_;exact iB2 h
 refine iR2 h fun h=>?_;refine iR2 h fun h=>?_;refine lpH (τ:=Int×Int) (fun ⟨n143,i144⟩=>(iS s_0::iI at_1::a4 (iI n143::iI 4::iI 65536::iI i144::a16 (a16 (a16 (a16 (a8 (.any :: [])))))):List AV)) (fun n6 ⟨n143,i144⟩=>Xq N s_0 at_1 n6 n143 i144) ((wrap .i64 ((wrap .i64 (b1.toNat:Int)) - 240)),1) h fun n6 ⟨n143,i144⟩ h=>?_
 first | rw [Xq] at h | simp only [Xq] at h
 rw [cX] at h;apply iU h<;>intro h
 ·refine cP h Yj p2 fun v146 h=>?_;refine iL2 h fun h=>?_;show Exists _;exact ⟨(n6,(wrap .i64 ((wrap .i64 (64 * n143))+v146.1)),(wrap .i64 (i144+1))),h,Lg _,(fun i=>i),Yr⟩
 refine iL2 h fun h=>?_;refine iL2 h fun h=>?_;refine iR2 h fun h=>?_;exact iB2 h
def Ys (N:Nat) (s_0:List UInt8):Nat→Int→Option Int
 | 0,_=>none
 | n+1,at12=>
  cond (Q5 .lss at12 (s_0.length:Int))
  ((Xm N s_0 at12).bind fun v14=>
  cond (Q5 .eql v14.2 0)
  (some at12)
  (cond (Q5 .eql v14.1 0)
  (some at12)
  (Ys N s_0 n (wrap .i64 (at12+v14.2)))))
  (some (-1))
def Uq (N:Nat) (s_0:List UInt8):Option Int:=
 Ys N s_0 N 0
theorem Q58 {N} {s_0} {r} (h:Uq N s_0=some r):pU 104 [.str s_0] (.int .i64 r):=by
 refine Q3 Z35 ?_;unfold Uq at h;refine lpH (τ:=Int) (fun at12=>(iS s_0 :: .any :: .any::iI at12::a16 (a4 (a2 ([]))):List AV)) (fun n0 at12=>Ys N s_0 n0 at12) (0) h fun n0 at12 h=>?_
 first | rw [Ys] at h | simp only [Ys] at h
 rw [cX] at h;refine iR h fun h=>?_;refine cP h Q3l p2 fun v14 h=>?_;refine iL h fun h=>?_;refine iL h fun h=>?_;show Exists _;exact ⟨(n0,(wrap .i64 (at12+v14.2))),h,Lg _,(fun i=>i),Yr⟩
def U5 (N:Nat) (s_0:List UInt8):Option Bool:=
 cond (Q5 .leq (s_0.length:Int) 65535)
 ((Uq N s_0).bind fun v2=>
 some (Q5 .lss v2 0))
 (some false)
theorem Q43 {N} {s_0} {r} (h:U5 N s_0=some r):pU 80 [.str s_0] (.bool r):=by
 refine Q3 k80 ?_;unfold U5 at h;rw [cX] at h;refine iR h fun h=>?_;refine cP h Q58 p1 fun v2 h=>?_;cases h;exact (.p _)
def Xe (N:Nat) (s_0:List UInt8) (c:Int):Nat→Int→Option Bool
 | 0,_=>none
 | n+1,i10=>
  cond (Q5 .lss i10 (s_0.length:Int))
  ((idx s_0 i10).bind fun b12=>
  cond (Q5 .eql (b12.toNat:Int) c)
  (some true)
  (Xe N s_0 c n (wrap .i64 (i10+1))))
  (some false)
def Vk (N:Nat) (s_0:List UInt8) (c:Int):Option Bool:=
 Xe N s_0 c N 0
theorem Q0o {N} {s_0} {c} {r} (h:Vk N s_0 c=some r):pU 81 [.str s_0,.int .u8 c] (.bool r):=by
 refine Q3 k81 ?_;unfold Vk at h;refine lpH (τ:=Int) (fun i10=>(iS s_0 :: .p (.int .u8 c)::a2 (.any::iI i10::a8 (a2 (.any :: []))):List AV)) (fun n0 i10=>Xe N s_0 c n0 i10) (0) h fun n0 i10 h=>?_
 first | rw [Xe] at h | simp only [Xe] at h
 rw [cX] at h;refine iR h fun h=>?_;refine xB h fun b12 h=>?_;refine iL h fun h=>?_;show Exists _;exact ⟨(n0,(wrap .i64 (i10+1))),h,Lg _,(fun i=>i),Yr⟩
def Yp (N:Nat) (s_0:List UInt8):Option Bool:=
 cond (Q0m .neq s_0 [])
 ((U5 N s_0).bind fun v2=>
 cond v2
 ((Vk N s_0 43).bind fun v5=>
 cond (!v5)
 ((Vk N s_0 35).bind fun v8=>
 some (!v8))
 (some false))
 (some false))
 (some false)
theorem V7 {N} {s_0} {r} (h:Yp N s_0=some r):pU 38 [.str s_0] (.bool r):=by
 refine Q3 k38 ?_;unfold Yp at h;rw [cY] at h;refine iR h fun h=>?_;refine cP h Q43 p1 fun v2 h=>?_;refine iR h fun h=>?_;refine cP h Q0o p2 fun v5 h=>?_;refine iR h fun h=>?_;refine cP h Q0o p2 fun v8 h=>?_;cases h;exact (.p _)
def Qh (N:Nat) (client:List UInt8) (name:List UInt8) (v4:(List Zf)×Q1):Nat→Int→Int→Option ((Int×Bool×Int)×Q1)
 | 0,_,_=>none
 | n+1,free27,i28=>
  cond (Q5 .lss i28 ((Q9 Zf.cells v4.1).length:Int))
  ((idx v4.1 i28).bind fun y30=>
  cond (Q0m .eql y30.Name name)
  ((idx v4.1 i28).bind fun y33=>
  some ((y33.ID,false,0),v4.2))
  ((idx v4.1 i28).bind fun y35=>
  cond (Q5 .eql y35.ID free27)
  (Qh N client name v4 n (wrap .i64 (free27+1)) (wrap .i64 (i28+1)))
  (Qh N client name v4 n free27 (wrap .i64 (i28+1)))))
  (cond (Q5 .gtr free27 65534)
  (some ((0,false,12),v4.2))
  ((Wi N v4.1 (⟨free27,name,false⟩:Zf)).bind fun v39=>
  (Y6 N v4.2 client v39).bind fun v41=>
  some ((free27,true,0),v41.2)))
def Z9 (N:Nat) (r_0:Q1) (client:List UInt8) (name:List UInt8):Option ((Int×Bool×Int)×Q1):=
 (Yp N name).bind fun v1=>
 cond (!v1)
 (some ((0,false,10),r_0))
 ((Zw N r_0 client).bind fun v4=>
 Qh N client name v4 N 1 0)
theorem Vb {N} {r_0} {client} {name} {r} (h:Z9 N r_0 client name=some r):Qnf Tryz.prog G1 26 (Q1.cells r_0) [.str client,.str name] (.tuple [.int .i64 r.1.1,.bool r.1.2.1,.int .i64 r.1.2.2]) (Q1.cells r.2):=by
 refine Q3n k26 ?_;unfold Z9 at h;refine cP h V7 p1 fun v1 h=>?_;apply iU h<;>intro h
 ·obtain rfl:=Qv h;exact ⟨_,_,rfl,p1,u3⟩
 refine cM h Vp rfl p1 fun v4 h=>?_;refine lpH (τ:=Int×Int) (fun ⟨free27,i28⟩=>(.ptr 0 0::iS client::iS name::a4 (a2 (.p (.slice 3 (Q9 Zf.cells v4.1))::iI free27::iI i28::a16 (a16 (a8 (a4 ([])))))):List AV)) (fun n0 ⟨free27,i28⟩=>Qh N client name v4 n0 free27 i28) (1,0) h fun n0 ⟨free27,i28⟩ h=>?_
 first | rw [Qh] at h | simp only [Qh] at h
 rw [cX,cY] at h;apply iU h<;>intro h
 ·refine xR h fun y30 h=>?_;apply iU h<;>intro h
  ·refine xR h fun y33 h=>?_;obtain rfl:=Qv h;exact ⟨_,_,rfl,p1,u3⟩
  refine xR h fun y35 h=>?_;apply iU h<;>intro h
  ·show Exists _;exact ⟨(n0,(wrap .i64 (free27+1)),(wrap .i64 (i28+1))),h,Lg _,(fun i=>i),Yr⟩
  show Exists _;exact ⟨(n0,free27,(wrap .i64 (i28+1))),h,Lg _,(fun i=>i),Yr⟩
 apply iU h<;>intro h
 ·obtain rfl:=Qv h;exact ⟨_,_,rfl,p1,u3⟩
 refine cP h Q0n (.cons (.p _) (.cons (Frz.agg' p3) .nil)) fun v39 h=>?_;refine cM h Ui rfl p2 fun v41 h=>?_;obtain rfl:=Qv h;exact ⟨_,_,rfl,p1,u3⟩
def Uk (N:Nat) (R:Reg) (c n:List UInt8) (id:Int):Option (Int×Reg):=(Yq N n).bind fun b=>some (Qqj b R c n id)
theorem Q2y {N R c n id r} (h:Uk N R c n id=some r):Q2x Tryz.prog G1 27 R [.str c,.str n,.int .i64 id] (.int .i64 r.1) r.2:=by
 obtain ⟨b,hb,h⟩:=Q01 h;cases h;exact Qvr (Xi hb)
def Qn (N:Nat) (client:List UInt8) (name:List UInt8) (id:Int) (v6:(List Zf)×Q1):Nat→Int→Option ((Int)×Q1)
 | 0,_=>none
 | n+1,i37=>
  cond (Q5 .lss i37 ((Q9 Zf.cells v6.1).length:Int))
  ((idx v6.1 i37).bind fun y39=>
  cond (Q5 .eql y39.ID id)
  (some (16,v6.2))
  ((idx v6.1 i37).bind fun y42=>
  cond (Q0m .eql y42.Name name)
  (some (16,v6.2))
  (Qn N client name id v6 n (wrap .i64 (i37+1)))))
  ((Wi N v6.1 (⟨id,name,true⟩:Zf)).bind fun v45=>
  (Y6 N v6.2 client v45).bind fun v47=>
  some (0,v47.2))
def Qw (N:Nat) (client:List UInt8) (name:List UInt8) (id:Int) (v6:(List Zf)×Q1):Nat→Int→Option ((Int)×Q1)
 | 0,_=>none
 | n+1,i17=>
  cond (Q5 .lss i17 ((Q9 Zf.cells v6.1).length:Int))
  ((idx v6.1 i17).bind fun y19=>
  cond (((y19.ID:Int) == id)&&(((y19.Name:List UInt8) == name)&&(((y19.Fixed:Bool) == true)&&true)))
  (some (0,v6.2))
  (Qw N client name id v6 n (wrap .i64 (i17+1))))
  (Qn N client name id v6 N 0)
def Z7 (N:Nat) (r_0:Q1) (client:List UInt8) (name:List UInt8) (id:Int):Option ((Int)×Q1):=
 (Yp N name).bind fun v1=>
 cond (!v1)
 (some (10,r_0))
 (cond (Q5 .lss id 1)
 (some (2,r_0))
 (cond (Q5 .gtr id 65534)
 (some (2,r_0))
 ((Zw N r_0 client).bind fun v6=>
 Qw N client name id v6 N 0)))
theorem V4 {N} {r_0} {client} {name} {id} {r} (h:Z7 N r_0 client name id=some r):Qnf Tryz.prog G1 28 (Q1.cells r_0) [.str client,.str name,.int .i64 id] (.int .i64 r.1) (Q1.cells r.2):=by
 refine Q3n k28 ?_;unfold Z7 at h;rw [cX] at h;refine cP h V7 p1 fun v1 h=>?_;apply iU h<;>intro h
 ·obtain rfl:=Qv h;exact ⟨_,_,rfl,p1,(.p _)⟩
 apply iU h<;>intro h
 ·obtain rfl:=Qv h;exact ⟨_,_,rfl,p1,(.p _)⟩
 apply iU h<;>intro h
 ·obtain rfl:=Qv h;exact ⟨_,_,rfl,p1,(.p _)⟩
 refine cM h Vp rfl p1 fun v6 h=>?_;refine lpH (τ:=Int) (fun i17=>(.ptr 0 0::iS client::iS name::iI id::a4 (.any :: .p (.slice 3 (Q9 Zf.cells v6.1)) :: .ptr 1 0::iI i17::a16 (a16 (a16 (a8 (a2 ([])))))):List AV)) (fun n0 i17=>Qw N client name id v6 n0 i17) (0) h fun n0 i17 h=>?_
 first | rw [Qw] at h | simp only [Qw] at h
 rw [cX] at h;apply iU h<;>intro h
 ·refine Qk ?_;refine xR h fun y19 h=>?_;apply iU h<;>intro h
  ·obtain rfl:=Qv h;exact ⟨_,_,rfl,p1,(.p _)⟩
  show Exists _;exact ⟨(n0,(wrap .i64 (i17+1))),h,Lg _,(fun i=>i),Yr⟩
 refine lpH (τ:=Int) (fun i37=>(.ptr 0 0::iS client::iS name::iI id::a4 (.any :: .p (.slice 3 (Q9 Zf.cells v6.1)) :: .ptr 1 0 :: .any::iI i37::a16 (a16 (a16 (a8 (.any :: []))))):List AV)) (fun n1 i37=>Qn N client name id v6 n1 i37) (0) h fun n1 i37 h=>?_
 first | rw [Qn] at h | simp only [Qn] at h
 rw [cX,cY] at h;apply iU h<;>intro h
 ·refine xR h fun y39 h=>?_;apply iU h<;>intro h
  ·obtain rfl:=Qv h;exact ⟨_,_,rfl,p1,(.p _)⟩
  refine xR h fun y42 h=>?_;apply iU h<;>intro h
  ·obtain rfl:=Qv h;exact ⟨_,_,rfl,p1,(.p _)⟩
  show Exists _;exact ⟨(n1,(wrap .i64 (i37+1))),h,Lg _,(fun i=>i),Yr⟩
 refine cP h Q0n (.cons (.p _) (.cons (Frz.agg' p3) .nil)) fun v45 h=>?_;refine cM h Ui rfl p2 fun v47 h=>?_;obtain rfl:=Qv h;exact ⟨_,_,rfl,p1,(.p _)⟩
def Q2e (N:Nat) (p:Ql):Option (Ql):=
 (Q4k N p.Codes).bind fun v1=>
 (Q1a N p.Filters).bind fun v3=>
 (Gr N p.Props).bind fun v5=>
 (Gr N p.Will.Props).bind fun v7=>
 some (⟨p.Kind,p.Dup,p.Retain,p.QoS,p.ID,p.Topic,p.Payload,p.Clean,p.KeepAlive,p.Client,p.HasUser,p.User,p.HasPass,p.Pass,p.HasWill,(⟨p.Will.Topic,p.Will.Payload,p.Will.QoS,p.Will.Retain,v7⟩:Wj),p.Session,p.Code,v1,v3,v5⟩:Ql)
theorem Qbw {N} {p} {r} (h:Q2e N p=some r):gU 74 (.p (.agg (Ql.cells p)) :: []) [] (.agg (Qpl r (.slice 4 0 0 r.Will.Props.length) (.slice 1 1 0 r.Codes.length) (.slice 5 2 0 r.Filters.length) (.slice 4 3 0 r.Props.length))) (.cells (W8 Zq.cells r.Will.Props) :: .cells (W8 (cI .i64) r.Codes) :: .cells (W8 Zb.cells r.Filters) :: .cells (W8 Zq.cells r.Props) :: []):=by
 refine Vm k74 (Lr rfl) ?_;unfold Q2e at h;refine Qk ?_;refine dcO h Qd2 [2] (fun v1 => .slice 1 2 0 v1.length) (rE rfl <| rN) fun v1 h=>?_;refine dcO h Q7p [3] (fun v3 => .slice 5 3 0 v3.length) (rE rfl <| rN) fun v3 h=>?_;refine Qk ?_;refine dcO h Q1n [4] (fun v5 => .slice 4 4 0 v5.length) (rE rfl <| rN) fun v5 h=>?_;refine dcO h Q1n [5] (fun v7 => .slice 4 5 0 v7.length) (rE rfl <| rN) fun v7 h=>?_;obtain rfl:=Qv h;show Exists _;exact ⟨(rho [5,2,3,4]),⟨(rG (rE rfl <| rE rfl <| rE rfl <| rE rfl <| rE rfl <| rE rfl <| rE rfl <| rE rfl <| rE rfl <| rE rfl <| rE rfl <| rE rfl <| rE rfl <| rE rfl <| rE rfl <| rE rfl <| rE rfl <| rE rfl <| rE rfl <| rE rfl <| rE rfl <| rE rfl <| rE rfl <| rE rfl <| rE rfl <| rN) <| rN),(hO rfl <| hO rfl <| hO rfl <| hO rfl <| hN),rfl,rfl,(roE (Uy _ _ _) <| roE (Uy _ _ _) <| roE (Uy _ _ _) <| roE (Uy _ _ _) <| roN)⟩⟩
def U2 (rz:Q2→Option Q2) (N:Nat) (v:Q2):Nat→Int→(List Q2)→Option Q2
 | 0,_,_=>none
 | n+1,s14,l15=>
  cond (Q5 .lss s14 ((Q2.rows v.Items).length:Int))
  ((idx v.Items s14).bind fun y17=>
  (rz y17).bind fun v19=>
  cond (Nat.ble ((l15.length+1+4096) * 56) 17592186044416) (U2 rz N v n (wrap .i64 (s14+1)) (l15 ++ [v19])) none)
  (some (⟨v.Kind,v.N',v.Text,l15⟩:Q2))
def Q2h (rz:Q2→Option Q2) (N:Nat) (v:Q2):Option Q2:=
 U2 rz N v N 0 []
theorem Q7t {rz:Q2→Option Q2} (hy1:∀ {v} {r},rz v=some r→pU 75 [.agg (Q2.cells v)] (.agg (Q2.cells r))) {N} {v} {r} (h:Q2h rz N v=some r):pU 75 [.agg (Q2.cells v)] (.agg (Q2.cells r)):=by
 refine Q3 k75 ?_;unfold Q2h at h;refine lpA (τ:=Int×(List Q2)) (fun ⟨s14,_⟩=>(.any :: .any :: .ptr 1 0 :: .ptr 2 0::a8 (a2 (.p (.slice 4 (Q2.rows v.Items))::iI ((Q2.rows v.Items).length:Int)::iI s14::a8 (a4 ([])))):List AV)) (fun ⟨_,l15⟩=>(.cells (iI v.Kind::iW v.N'::iS v.Text :: .p (.slice 4 (Q2.rows v.Items)) :: []) :: .cells (iI 0::iW 0::iS [] :: .p .nilSlice :: []) :: .cells (iI v.Kind::iW v.N'::iS v.Text :: .slice 4 3 0 l15.length :: []) :: .cells (W8 Q2.cells l15) :: []:List AObj)) (fun n0 ⟨s14,l15⟩=>U2 rz N v n0 s14 l15) (0,[]) h fun n0 ⟨s14,l15⟩ h=>?_
 first | rw [U2] at h | simp only [U2] at h
 rw [cX] at h;apply iU h<;>intro h
 ·refine Q2.xR h fun y17 h=>?_;refine Qk ?_;refine cD h hy1 (.cons q4 .nil) fun v19 h=>?_;obtain ⟨hk21,h⟩:=Q54 h;refine Q2t (Xj (c:=Q2.cells) (e:=4) (fun _=>rfl) sd hk21) ?_;refine Un (c:=Q2.cells) [v19] rfl ?_;show Exists _;exact ⟨(n0,(wrap .i64 (s14+1)),(l15 ++ [v19])),h,Lg _,(rho [0,1,2,6]),Yr⟩
 obtain rfl:=Qv h;exact (Frz.agg' (f2_ (f1_ (.cons (Q2.frz_own (l:=l15) rfl trivial sd) .nil))))
def Q0b:Nat→Q2→Option Q2
 | 0=>fun _=>none
 | N+1=>Q2h (Q0b N) N
theorem Q8n {N} {v} {r} (h:Q0b N v=some r):pU 75 [.agg (Q2.cells v)] (.agg (Q2.cells r)):=by
 induction N generalizing v r with
 | zero=>simp [Q0b] at h
 | succ N ih=>exact Q7t (fun h=>ih h) h
def Js (N:Nat) (e:Qc) (v1:List Zq) (v3:List V0) (v5:Ql):Nat→Int→(List Q2)→Option Qc
 | 0,_,_=>none
 | n+1,s20,l21=>
  cond (Q5 .lss s20 ((Q2.rows e.Frame.Values).length:Int))
  ((idx e.Frame.Values s20).bind fun y23=>
  (Q0b N y23).bind fun v25=>
  cond (Nat.ble ((l21.length+1+4096) * 56) 17592186044416) (Js N e v1 v3 v5 n (wrap .i64 (s20+1)) (l21 ++ [v25])) none)
  (some (⟨e.Proto,e.Kind,e.Topic,e.Payload,e.QoS,e.Retain,e.Dup,e.ID,v1,e.Type',v3,e.Channel,v5,e.Msg,(⟨e.Frame.Type',e.Frame.Channel,e.Frame.Ext,l21⟩:Zi)⟩:Qc))
def Wq (N:Nat) (e:Qc):Option Qc:=
 (Gr N e.Props).bind fun v1=>
 (Gk N e.Hops).bind fun v3=>
 (Q2e N e.Packet).bind fun v5=>
 Js N e v1 v3 v5 N 0 []
theorem Gz {N} {e} {r} (h:Wq N e=some r):pU 32 [.agg (Qc.cells e)] (.agg (Qc.cells r)):=by
 refine Q3 k32 ?_;unfold Wq at h;refine cO h Q1n (fun v1 => .slice 4 3 0 v1.length) (rE rfl <| rN) fun v1 h=>?_;refine cO h Q5g (fun v3 => .slice 2 4 0 v3.length) (rE rfl <| rN) fun v3 h=>?_;refine cO h Qbw (fun v5 => .agg (Qnu v5 (.slice 4 5 0 v5.Will.Props.length) (.slice 1 6 0 v5.Codes.length) (.slice 5 7 0 v5.Filters.length) (.slice 4 8 0 v5.Props.length))) (rF (Frz.agg' (Za (f2_ (f1_ (.cons (.p _) p5))))) <| rN) fun v5 h=>?_;refine lpA (τ:=Int×(List Q2)) (fun ⟨s20,_⟩=>(.any :: .any :: .ptr 1 0 :: .ptr 2 0::a16 (a2 (.any :: .p (.slice 4 (Q2.rows e.Frame.Values))::iI ((Q2.rows e.Frame.Values).length:Int)::iI s20::a8 (a4 (a2 ([]))))):List AV)) (fun ⟨_,l21⟩=>(.cells (Q19 e ([])) :: .cells (iI 0::iI 0::iS []::iS []::iI 0 :: .p (.bool false) :: .p (.bool false)::iI 0 :: .p .nilSlice::iI 0 :: .p .nilSlice::iI 0::iI 0 :: .p (.bool false) :: .p (.bool false)::iI 0::iI 0::iS []::iS [] :: .p (.bool false)::iI 0::iS [] :: .p (.bool false)::iS [] :: .p (.bool false)::iS [] :: .p (.bool false)::iS []::iS []::iI 0 :: .p (.bool false) :: .p .nilSlice :: .p (.bool false)::iI 0 :: .p .nilSlice :: .p .nilSlice :: .p .nilSlice::iI 0 :: .p (.bool false)::iI 0 :: .p (.bool false) :: .p (.bool false) :: .p (.bool false)::iI 0::iI 0::iI 0::iI 0 :: .p (.bool false)::iI 0::iI 0::iI 0::iS []::iS []::iI 0::iI 0::iS [] :: .p .nilSlice :: []) :: .cells (iI e.Proto::iI e.Kind::iS e.Topic::iS e.Payload::iI e.QoS :: .p (.bool e.Retain) :: .p (.bool e.Dup)::iI e.ID :: .slice 4 3 0 v1.length::iI e.Type' :: .slice 2 4 0 v3.length::iI e.Channel::Qp6 v5 (.slice 4 5 0 v5.Will.Props.length) (.slice 1 6 0 v5.Codes.length) (.slice 5 7 0 v5.Filters.length) (.slice 4 8 0 v5.Props.length) (Qe6 e.Msg (iI e.Frame.Type'::iI e.Frame.Channel::iS e.Frame.Ext :: .slice 4 9 0 l21.length :: []))) :: .cells (W8 Zq.cells v1) :: .cells (W8 V0.cells v3) :: .cells (W8 Zq.cells v5.Will.Props) :: .cells (W8 (cI .i64) v5.Codes) :: .cells (W8 Zb.cells v5.Filters) :: .cells (W8 Zq.cells v5.Props) :: .cells (W8 Q2.cells l21) :: []:List AObj)) (fun n0 ⟨s20,l21⟩=>Js N e v1 v3 v5 n0 s20 l21) (0,[]) h fun n0 ⟨s20,l21⟩ h=>?_
 first | rw [Js] at h | simp only [Js] at h
 rw [cX] at h;apply iU h<;>intro h
 ·refine Q2.xR h fun y23 h=>?_;refine Qk ?_;refine cD h Q8n (.cons q4 .nil) fun v25 h=>?_;obtain ⟨hk27,h⟩:=Q54 h;refine Q2t (Xj (c:=Q2.cells) (e:=4) (fun _=>rfl) sd hk27) ?_;refine Un (c:=Q2.cells) [v25] rfl ?_;show Exists _;exact ⟨(n0,(wrap .i64 (s20+1)),(l21 ++ [v25])),h,Lg _,(rho [0,1,2,3,4,5,6,7,8,12]),Yr⟩
 obtain rfl:=Qv h;exact (Frz.agg' (f8_ (.cons (frz_own (c:=Zq.cells) (l:=(v1:List Zq)) (fun _=>rfl) rfl trivial sd) (.cons (.p _) (.cons (frz_own (c:=V0.cells) (l:=(v3:List V0)) (fun _=>rfl) rfl trivial sd) (Za (f4_ (.cons (frz_own (c:=Zq.cells) (l:=(v5.Will.Props:List Zq)) (fun _=>rfl) rfl trivial sd) (f2_ (.cons (frz_own (c:=(cI .i64)) (l:=(v5.Codes:List Int)) (fun _=>rfl) rfl trivial sd) (.cons (frz_own (c:=Zb.cells) (l:=(v5.Filters:List Zb)) (fun _=>rfl) rfl trivial sd) (.cons (frz_own (c:=Zq.cells) (l:=(v5.Props:List Zq)) (fun _=>rfl) rfl trivial sd) (Za (f2_ (f1_ (.cons (Q2.frz_own (l:=l21) rfl trivial sd) .nil))))))))))))))))
def Xt (_N:Nat) (R:Reg) (c n:List UInt8):Option ((Int×Int)×Reg):=some (rID R c n,R)
theorem Xk {N R c n r} (h:Xt N R c n=some r):Q2x Tryz.prog G1 17 R [.str c,.str n] (.tuple [.int .i64 r.1.1,.int .i64 r.1.2]) r.2:=by cases h;exact Qy2
def Q49 (_N:Nat) (R:Reg) (c:List UInt8) (id:Int):Option (Bool×Reg):=some (Q1i R c id,R)
theorem Q37 {N R c id r} (h:Q49 N R c id=some r):Q2x Tryz.prog G1 54 R [.str c,.int .i64 id] (.bool r.1) r.2:=by cases h;exact Qou
def Gc (N:Nat) (s_0:List UInt8):Nat→Int→Int→Option Int
 | 0,_,_=>none
 | n+1,n12,s13=>
  cond (Q5 .lss s13 (((s_0.take s_0.length).drop ((wrap .i64 ((s_0.length:Int) - 8)).toNat)).length:Int))
  ((idx ((s_0.take s_0.length).drop ((wrap .i64 ((s_0.length:Int) - 8)).toNat)) s13).bind fun b15=>
  Gc N s_0 n (orI .u64 (Qc0 .u64 n12 8) (wrap .u64 (b15.toNat:Int))) (wrap .i64 (s13+1)))
  (some n12)
def U7 (N:Nat) (s_0:List UInt8):Nat→Int→Int→Option Int
 | 0,_,_=>none
 | n+1,n25,s26=>
  cond (Q5 .lss s26 (s_0.length:Int))
  ((idx s_0 s26).bind fun b28=>
  U7 N s_0 n (orI .u64 (Qc0 .u64 n25 8) (wrap .u64 (b28.toNat:Int))) (wrap .i64 (s26+1)))
  (some n25)
def Uw (N:Nat) (s_0:List UInt8):Option Int:=
 cond (Q5 .gtr (s_0.length:Int) 8)
 (cond (decide (0≤(wrap .i64 ((s_0.length:Int) - 8)))) (cond (Nat.ble (wrap .i64 ((s_0.length:Int) - 8)).toNat s_0.length&&Nat.ble s_0.length s_0.length) (Gc N s_0 N 0 0) none) none)
 (U7 N s_0 N 0 0)
theorem Q17 {N} {s_0} {r} (h:Uw N s_0=some r):pU 119 [.str s_0] (.int .u64 r):=by
 refine Q3 Z4t ?_;unfold Uw at h;rw [cX] at h;apply iU h<;>intro h
 ·refine kU h fun h=>?_;refine kU h fun h=>?_;refine lpH (τ:=Int×Int) (fun ⟨n12,s13⟩=>(.p (.str ((s_0.take s_0.length).drop ((wrap .i64 ((s_0.length:Int) - 8)).toNat))) :: .any :: .any::iW n12::a8 (a2 (.p (.int .i64 (((s_0.take s_0.length).drop ((wrap .i64 ((s_0.length:Int) - 8)).toNat)).length:Int))::iI s13::a8 (a2 (.any :: [])))):List AV)) (fun n0 ⟨n12,s13⟩=>Gc N s_0 n0 n12 s13) (0,0) h fun n0 ⟨n12,s13⟩ h=>?_
  first | rw [Gc] at h | simp only [Gc] at h
  rw [cX] at h;refine iR h fun h=>?_;refine xB h fun b15 h=>?_;show Exists _;exact ⟨(n0,(orI .u64 (Qc0 .u64 n12 8) (wrap .u64 (b15.toNat:Int))),(wrap .i64 (s13+1))),h,Lg _,(fun i=>i),Yr⟩
 refine lpH (τ:=Int×Int) (fun ⟨n25,s26⟩=>(iS s_0 :: .any :: .any::iW n25::a8 (a2 (iI (s_0.length:Int)::iI s26::a8 (a2 (.any :: [])))):List AV)) (fun n1 ⟨n25,s26⟩=>U7 N s_0 n1 n25 s26) (0,0) h fun n1 ⟨n25,s26⟩ h=>?_
 first | rw [U7] at h | simp only [U7] at h
 rw [cX] at h;refine iR h fun h=>?_;refine xB h fun b28 h=>?_;show Exists _;exact ⟨(n1,(orI .u64 (Qc0 .u64 n25 8) (wrap .u64 (b28.toNat:Int))),(wrap .i64 (s26+1))),h,Lg _,(fun i=>i),Yr⟩
def G4 (N:Nat) (name:List UInt8):Option (Int×Bool):=
 cond (Q5 .neq (name.length:Int) 2)
 (some (0,false))
 ((Yq N name).bind fun v2=>
 cond (!v2)
 (some (0,false))
 ((Uw N name).bind fun v5=>
 some ((wrap .i64 v5),true)))
theorem Q51 {N} {name} {r} (h:G4 N name=some r):pU 97 [.str name] (.tuple [.int .i64 r.1,.bool r.2]):=by
 refine Q3 k97 ?_;unfold G4 at h;rw [cX] at h;refine iL2 h fun h=>?_;refine cP h Xi p1 fun v2 h=>?_;refine iL2 h fun h=>?_;refine cP h Q17 p1 fun v5 h=>?_;obtain rfl:=Qv h;exact u2
def Vd (N:Nat) (a:Gy) (name:List UInt8):Option (Int×Bool):=
 (G4 N name).bind fun v1=>
 some (v1.1,v1.2)
theorem Q6m {N} {a} {name} {r} (h:Vd N a name=some r):pU 465 [.agg (Gy.cells a),.str name] (.tuple [.int .i64 r.1,.bool r.2]):=by
 refine Q3 Z6k ?_;unfold Vd at h;refine cP h Q51 p1 fun v1 h=>?_;obtain rfl:=Qv h;exact u2
def Q23 (_N:Nat) (l:X2):Option Bool:=
 cond (Q5 .geq l.MaxPacket 16)
 (cond (Q5 .leq l.MaxPacket 1048576)
 (cond (Q5 .geq l.MaxDepth 0)
 (some (Q5 .leq l.MaxDepth 32))
 (some false))
 (some false))
 (some false)
theorem Qa8 {N} {l} {r} (h:Q23 N l=some r):pU 116 [.agg (X2.cells l)] (.bool r):=by
 refine Q3 Z27 ?_;unfold Q23 at h;rw [cX] at h;refine iR h fun h=>?_;refine iR h fun h=>?_;exact iB h
def W2 (rv:Q2→Q2→Option Bool) (N:Nat) (a:Q2) (b:Q2):Nat→Int→Option Bool
 | 0,_=>none
 | n+1,s22=>
  cond (Q5 .lss s22 ((Q2.rows a.Items).length:Int))
  ((idx a.Items s22).bind fun y24=>
  (idx b.Items s22).bind fun y26=>
  (rv y24 y26).bind fun v28=>
  cond (!v28)
  (some false)
  (W2 rv N a b n (wrap .i64 (s22+1))))
  (some true)
def Q0f (rv:Q2→Q2→Option Bool) (N:Nat) (a:Q2) (b:Q2):Option Bool:=
 cond (Q5 .neq a.Kind b.Kind)
 (some false)
 (cond (Q5 .neq a.N' b.N')
 (some false)
 (cond (Q0m .neq a.Text b.Text)
 (some false)
 (cond (Q5 .neq ((Q2.rows a.Items).length:Int) ((Q2.rows b.Items).length:Int))
 (some false)
 (W2 rv N a b N 0))))
theorem Q8v {rv:Q2→Q2→Option Bool} (hx1:∀ {a} {b} {r},rv a b=some r→pU 125 [.agg (Q2.cells a),.agg (Q2.cells b)] (.bool r)) {N} {a} {b} {r} (h:Q0f rv N a b=some r):pU 125 [.agg (Q2.cells a),.agg (Q2.cells b)] (.bool r):=by
 refine Q3 Z3c ?_;unfold Q0f at h;rw [cX,cY] at h;refine iL h fun h=>?_;refine iL h fun h=>?_;refine iL h fun h=>?_;refine iL h fun h=>?_;refine lpH (τ:=Int) (fun s22=>(.any :: .any :: .ptr 0 0 :: .ptr 1 0::a16 (a16 (iI ((Q2.rows a.Items).length:Int)::iI s22::a8 (a4 (a2 (.any :: []))))):List AV)) (fun n0 s22=>W2 rv N a b n0 s22) (0) h fun n0 s22 h=>?_
 first | rw [W2] at h | simp only [W2] at h
 rw [cX] at h;refine iR h fun h=>?_;refine Qk ?_;refine Q2.xR h fun y24 h=>?_;refine Q2.xR h fun y26 h=>?_;refine cD h hx1 (.cons q4 (.cons q4 .nil)) fun v28 h=>?_;refine iL h fun h=>?_;show Exists _;exact ⟨(n0,(wrap .i64 (s22+1))),h,Lg _,(fun i=>i),Yr⟩
def Vf:Nat→Q2→Q2→Option Bool
 | 0=>fun _ _=>none
 | N+1=>Q0f (Vf N) N
theorem Q87 {N} {a} {b} {r} (h:Vf N a b=some r):pU 125 [.agg (Q2.cells a),.agg (Q2.cells b)] (.bool r):=by
 induction N generalizing a b r with
 | zero=>simp [Vf] at h
 | succ N ih=>exact Q8v (fun h=>ih h) h
def Yv (N:Nat) (a:Zi) (b:Zi):Nat→Int→Option Bool
 | 0,_=>none
 | n+1,s22=>
  cond (Q5 .lss s22 ((Q2.rows a.Values).length:Int))
  ((idx a.Values s22).bind fun y24=>
  (idx b.Values s22).bind fun y26=>
  (Vf N y24 y26).bind fun v28=>
  cond (!v28)
  (some false)
  (Yv N a b n (wrap .i64 (s22+1))))
  (some true)
def Jt (N:Nat) (a:Zi) (b:Zi):Option Bool:=
 cond (Q5 .neq a.Type' b.Type')
 (some false)
 (cond (Q5 .neq a.Channel b.Channel)
 (some false)
 (cond (Q0m .neq a.Ext b.Ext)
 (some false)
 (cond (Q5 .neq ((Q2.rows a.Values).length:Int) ((Q2.rows b.Values).length:Int))
 (some false)
 (Yv N a b N 0))))
theorem Q8o {N} {a} {b} {r} (h:Jt N a b=some r):pU 100 [.agg (Zi.cells a),.agg (Zi.cells b)] (.bool r):=by
 refine Q3 Z4g ?_;unfold Jt at h;rw [cX,cY] at h;refine iL h fun h=>?_;refine iL h fun h=>?_;refine iL h fun h=>?_;refine iL h fun h=>?_;refine lpH (τ:=Int) (fun s22=>(a2 (.any :: .ptr 1 0::a16 (a16 (.p (.slice 4 (Q2.rows a.Values))::iI ((Q2.rows a.Values).length:Int)::iI s22::a8 (a4 (.any :: []))))):List AV)) (fun n0 s22=>Yv N a b n0 s22) (0) h fun n0 s22 h=>?_
 first | rw [Yv] at h | simp only [Yv] at h
 rw [cX] at h;refine iR h fun h=>?_;refine Q2.xR h fun y24 h=>?_;refine Qk ?_;refine Q2.xR h fun y26 h=>?_;refine cD h Q87 (.cons q4 (.cons q4 .nil)) fun v28 h=>?_;refine iL h fun h=>?_;show Exists _;exact ⟨(n0,(wrap .i64 (s22+1))),h,Lg _,(fun i=>i),Yr⟩
def Q35 (_N:Nat) (p:Ql):Option (Q3o):=
 some (⟨p.Kind,p.QoS,p.ID,p.KeepAlive,p.Code,p.Dup,p.Retain,p.Clean,p.HasUser,p.HasPass,p.HasWill,p.Session,p.Topic,p.Payload,p.Client,p.User,p.Pass⟩:Q3o)
theorem Q5e {N} {p} {r} (h:Q35 N p=some r):pU 120 [.agg (Ql.cells p)] (.agg (Q3o.cells r)):=by
 refine Q3 Z4y ?_;unfold Q35 at h;obtain rfl:=Qv h;exact (Frz.agg' (f8_ (f2_ (f1_ (.cons (.p _) p5)))))
def Ju (_N:Nat) (a:Zq) (b:Zq):Option Bool:=
 some (((a.ID:Int) == b.ID)&&(((a.N':Int) == b.N')&&(((a.Text:List UInt8) == b.Text)&&(((a.Value:List UInt8) == b.Value)&&true))))
theorem Q3t {N} {a} {b} {r} (h:Ju N a b=some r):pU 164 [.agg (Zq.cells a),.agg (Zq.cells b)] (.bool r):=by
 refine Q3 Z2w ?_;unfold Ju at h;cases h;exact (.p _)
def X7 (N:Nat) (a:List Zq) (b:List Zq):Nat→Int→Option Bool
 | 0,_=>none
 | n+1,s19=>
  cond (Q5 .lss s19 ((Q9 Zq.cells a).length:Int))
  ((idx a s19).bind fun y21=>
  (idx b s19).bind fun y23=>
  (Ju N y21 y23).bind fun v25=>
  cond (!v25)
  (some false)
  (X7 N a b n (wrap .i64 (s19+1))))
  (some true)
def W4 (N:Nat) (a:List Zq) (b:List Zq):Option Bool:=
 cond (Q5 .neq ((Q9 Zq.cells a).length:Int) ((Q9 Zq.cells b).length:Int))
 (some false)
 (X7 N a b N 0)
theorem Q02 {N} {a} {b} {r} (h:W4 N a b=some r):pU 124 [.slice 4 (Q9 Zq.cells a),.slice 4 (Q9 Zq.cells b)] (.bool r):=by
 refine Q3 Z6c ?_;unfold W4 at h;rw [cX] at h;refine Qf Z14 ?_;refine iL h fun h=>?_;refine lpH (τ:=Int) (fun s19=>(.any :: .p (.slice 4 (Q9 Zq.cells b)) :: .p (.func (.func 164) [] [])::a8 (a4 (.p (.slice 4 (Q9 Zq.cells a))::iI ((Q9 Zq.cells a).length:Int)::iI s19::a8 (a4 (a2 ([]))))):List AV)) (fun n0 s19=>X7 N a b n0 s19) (0) h fun n0 s19 h=>?_
 first | rw [X7] at h | simp only [X7] at h
 rw [cX] at h;refine iR h fun h=>?_;refine xR h fun y21 h=>?_;refine xR h fun y23 h=>?_;refine cP h Q3t (.cons q4 (.cons q4 .nil)) fun v25 h=>?_;refine iL h fun h=>?_;show Exists _;exact ⟨(n0,(wrap .i64 (s19+1))),h,Lg _,(fun i=>i),Yr⟩
def Jf (N:Nat) (a:Wj) (b:Wj):Option Bool:=
 cond (Q0m .eql a.Topic b.Topic)
 (cond (Q0m .eql a.Payload b.Payload)
 (cond (Q5 .eql a.QoS b.QoS)
 (cond (a.Retain == b.Retain)
 ((W4 N a.Props b.Props).bind fun v5=>
 some v5)
 (some false))
 (some false))
 (some false))
 (some false)
theorem Q8u {N} {a} {b} {r} (h:Jf N a b=some r):pU 121 [.agg (Wj.cells a),.agg (Wj.cells b)] (.bool r):=by
 refine Q3 Z4h ?_;unfold Jf at h;rw [cX,cY] at h;refine iR h fun h=>?_;refine iR h fun h=>?_;refine iR h fun h=>?_;refine iR h fun h=>?_;refine cP h Q02 p2 fun v5 h=>?_;cases h;exact (.p _)
def Q1p (_N:Nat) (a:Int) (b:Int):Option Bool:=
 some (Q5 .eql a b)
theorem Q7k {N} {a} {b} {r} (h:Q1p N a b=some r):pU 160 [.int .i64 a,.int .i64 b] (.bool r):=by
 refine Q3 Z1h ?_;unfold Q1p at h;rw [cX] at h;cases h;exact (.p _)
def Wz (N:Nat) (a:List Int) (b:List Int):Nat→Int→Option Bool
 | 0,_=>none
 | n+1,s19=>
  cond (Q5 .lss s19 ((Q9 (cI .i64) a).length:Int))
  ((idx a s19).bind fun y21=>
  (idx b s19).bind fun y23=>
  (Q1p N y21 y23).bind fun v25=>
  cond (!v25)
  (some false)
  (Wz N a b n (wrap .i64 (s19+1))))
  (some true)
def Jj (N:Nat) (a:List Int) (b:List Int):Option Bool:=
 cond (Q5 .neq ((Q9 (cI .i64) a).length:Int) ((Q9 (cI .i64) b).length:Int))
 (some false)
 (Wz N a b N 0)
theorem Q7x {N} {a} {b} {r} (h:Jj N a b=some r):pU 122 [.slice 1 (Q9 (cI .i64) a),.slice 1 (Q9 (cI .i64) b)] (.bool r):=by
 refine Q3 Z9j ?_;unfold Jj at h;rw [cX] at h;refine Qf Z66 ?_;refine iL h fun h=>?_;refine lpH (τ:=Int) (fun s19=>(.any :: .p (.slice 1 (Q9 (cI .i64) b)) :: .p (.func (.func 160) [] [])::a8 (a4 (.p (.slice 1 (Q9 (cI .i64) a)) :: .p (.int .i64 ((Q9 (cI .i64) a).length:Int))::iI s19::a8 (a4 (a2 ([]))))):List AV)) (fun n0 s19=>Wz N a b n0 s19) (0) h fun n0 s19 h=>?_
 first | rw [Wz] at h | simp only [Wz] at h
 rw [cX] at h;refine iR h fun h=>?_;refine xR h fun y21 h=>?_;refine xR h fun y23 h=>?_;refine cP h Q7k p2 fun v25 h=>?_;refine iL h fun h=>?_;show Exists _;exact ⟨(n0,(wrap .i64 (s19+1))),h,Lg _,(fun i=>i),Yr⟩
def Uu (_N:Nat) (a:Zb) (b:Zb):Option Bool:=
 some (((a.Topic:List UInt8) == b.Topic)&&(((a.QoS:Int) == b.QoS)&&(((a.NoLocal:Bool) == b.NoLocal)&&(((a.AsPublished:Bool) == b.AsPublished)&&(((a.Handling:Int) == b.Handling)&&true)))))
theorem Q2u {N} {a} {b} {r} (h:Uu N a b=some r):pU 162 [.agg (Zb.cells a),.agg (Zb.cells b)] (.bool r):=by
 refine Q3 Z77 ?_;unfold Uu at h;cases h;exact (.p _)
def Yn (N:Nat) (a:List Zb) (b:List Zb):Nat→Int→Option Bool
 | 0,_=>none
 | n+1,s19=>
  cond (Q5 .lss s19 ((Q9 Zb.cells a).length:Int))
  ((idx a s19).bind fun y21=>
  (idx b s19).bind fun y23=>
  (Uu N y21 y23).bind fun v25=>
  cond (!v25)
  (some false)
  (Yn N a b n (wrap .i64 (s19+1))))
  (some true)
def Wf (N:Nat) (a:List Zb) (b:List Zb):Option Bool:=
 cond (Q5 .neq ((Q9 Zb.cells a).length:Int) ((Q9 Zb.cells b).length:Int))
 (some false)
 (Yn N a b N 0)
theorem Q38 {N} {a} {b} {r} (h:Wf N a b=some r):pU 123 [.slice 5 (Q9 Zb.cells a),.slice 5 (Q9 Zb.cells b)] (.bool r):=by
 refine Q3 Z7q ?_;unfold Wf at h;rw [cX] at h;refine Qf Z2i ?_;refine iL h fun h=>?_;refine lpH (τ:=Int) (fun s19=>(.any :: .p (.slice 5 (Q9 Zb.cells b)) :: .p (.func (.func 162) [] [])::a8 (a4 (.p (.slice 5 (Q9 Zb.cells a))::iI ((Q9 Zb.cells a).length:Int)::iI s19::a8 (a4 (a2 ([]))))):List AV)) (fun n0 s19=>Yn N a b n0 s19) (0) h fun n0 s19 h=>?_
 first | rw [Yn] at h | simp only [Yn] at h
 rw [cX] at h;refine iR h fun h=>?_;refine xR h fun y21 h=>?_;refine xR h fun y23 h=>?_;refine cP h Q2u (.cons (Frz.agg' p5) (.cons (Frz.agg' p5) .nil)) fun v25 h=>?_;refine iL h fun h=>?_;show Exists _;exact ⟨(n0,(wrap .i64 (s19+1))),h,Lg _,(fun i=>i),Yr⟩
end
end
end Go.Av
