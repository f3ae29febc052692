/- Part of the proof of FrommqttBack: for every input the law returns true; no condition. -/
import Derived.Test.YteblaejaahpnaaaGreatDoorLiftTy
import Derived.Test.YteblaejaahpnaaaGreatDoorChks
import Derived.Test.YteblaejaahpnaaaGreatDoorSeat1
import Derived.Test.YteblaejaahpnaaaGreatDoorKn1
import Derived.Test.YteblaejaahpnaaaGreatDoorRound
import Derived.Test.YteblaejaahpnaaaGreatDoorMan06
import Derived.Test.YteblaejaahpnaaaGreatDoorShelfJ
import Derived.Test.YteblaejaahpnaaaGreatDoorClones
set_option linter.all false
open Go.IntKind (wrap)
namespace Go.Av
noncomputable section
open Go.Proofs
set_option maxRecDepth 100000
set_option maxHeartbeats 4000000
attribute [local irreducible] Gu U7 Qdf Qij Qut Qug Qi3
section
abbrev pU:=Qci Tryz.prog G1
abbrev gU:=GC Tryz.prog G1
def Q3s (_N:Nat) (version:Int):Option (Int×Bool):=
 cond (Q3 .eql version 4)
 (some (1,true))
 (cond (Q3 .eql version 5)
 (some (2,true))
 (some (0,false)))
theorem Qcy {N} {version} {r} (h:Q3s N version=some r):pU 23 [.int .i64 version] (.tuple [.int .i64 r.1,.bool r.2]):=by
 refine Q0 k23 ?_;unfold Q3s at h;rw [cX] at h;refine iL2 h fun h=>?_;exact iB2 h
def Q2q (_N:Nat) (s_0:List UInt8):Option Bool:=
 cond (Q3 .geq (s_0.length:Int) 3)
 (cond (Nat.ble 0 3&&Nat.ble 3 s_0.length) (some (Q0p .eql ((s_0.take 3).drop 0) [239,191,189])) none)
 (some false)
theorem Qeq {N} {s_0} {r} (h:Q2q N s_0=some r):pU 394 [.str s_0] (.bool r):=by
 refine Q0 Zg9 ?_;unfold Q2q at h;rw [cX,cY] at h;refine iR h fun h=>?_;refine kU h fun h=>?_;cases h;exact (.p _)
def Uo (N:Nat) (s_0:List UInt8):Nat→Nat→Option Int
 | 0,_=>none
 | n+1,pos16=>
  cond (Nat.blt pos16 s_0.length)
  (cond (Q3 .eql (((Qfg s_0 pos16).1:Nat):Int) 0)
  (some ((pos16:Nat):Int))
  (cond (Q3 .eql (((Qfg s_0 pos16).1:Nat):Int) 65533)
  (cond (Nat.ble pos16 s_0.length&&Nat.ble s_0.length s_0.length) ((Q2q N ((s_0.take s_0.length).drop pos16)).bind fun v21=>
  cond (!v21)
  (some ((pos16:Nat):Int))
  (Uo N s_0 n (pos16+(Qfg s_0 pos16).2))) none)
  (Uo N s_0 n (pos16+(Qfg s_0 pos16).2))))
  (some (-1))
def Q6o (N:Nat) (s_0:List UInt8):Option Int:=
 Uo N s_0 N 0
theorem Qh4 {N} {s_0} {r} (h:Q6o N s_0=some r):pU 324 [.str s_0] (.int .i64 r):=by
 refine Q0 Zn5 ?_;unfold Q6o at h;refine lpA (τ:=Nat) (fun _=>(iS s_0::a4 (.any :: .ptr 0 0::a16 (a2 ([]))):List AV)) (fun pos16=>(.strIter s_0 pos16 :: []:List AObj)) (fun n0 pos16=>Uo N s_0 n0 pos16) (0) h fun n0 pos16 h=>?_
 first | rw [Uo] at h | simp only [Uo] at h
 rw [cX] at h;refine iR h fun h=>?_;refine iL h fun h=>?_;apply iU h<;>intro h
 ·refine kU h fun h=>?_;refine cP h Qeq p1 fun v21 h=>?_;refine iL h fun h=>?_;show Exists _;exact ⟨(n0,(pos16+(Qfg s_0 pos16).2)),h,Lf _,(fun i=>i),Yn⟩
 show Exists _;exact ⟨(n0,(pos16+(Qfg s_0 pos16).2)),h,Lf _,(fun i=>i),Yn⟩
def X1 (N:Nat) (s_0:List UInt8):Option Bool:=
 cond (Q3 .leq (s_0.length:Int) 65535)
 ((Q6o N s_0).bind fun v2=>
 some (Q3 .eql v2 (-1)))
 (some false)
theorem Xm {N} {s_0} {r} (h:X1 N s_0=some r):pU 245 [.str s_0] (.bool r):=by
 refine Q0 Zg4 ?_;unfold X1 at h;rw [cX] at h;refine iR h fun h=>?_;refine cP h Qh4 p1 fun v2 h=>?_;cases h;exact (.p _)
def Q65 (N:Nat) (s_0:List UInt8):Option Bool:=
 cond (Q0p .neq s_0 [])
 ((X1 N s_0).bind fun v2=>
 some v2)
 (some false)
theorem Qbr {N} {s_0} {r} (h:Q65 N s_0=some r):pU 181 [.str s_0] (.bool r):=by
 refine Q0 Zo1 ?_;unfold Q65 at h;rw [cY] at h;refine iR h fun h=>?_;refine cP h Xm p1 fun v2 h=>?_;cases h;exact (.p _)
def Zn (_N:Nat) (s_0:List UInt8) (c:Int):Option Int:=
 some (Qdn s_0 (UInt8.ofNat (Int.toNat c)) 0:Int)
theorem Vj {N} {s_0} {c} {r} (h:Zn N s_0 c=some r):pU 442 [.str s_0,.int .u8 c] (.int .i64 r):=by
 refine Q0 Zou ?_;unfold Zn at h;cases h;exact (.p _)
def Q1u (N:Nat) (s_0:List UInt8) (c:Int):Option Int:=
 (Zn N s_0 c).bind fun v1=>
 some v1
theorem Q5m {N} {s_0} {c} {r} (h:Q1u N s_0 c=some r):pU 395 [.str s_0,.int .u8 c] (.int .i64 r):=by
 refine Q0 Zi9 ?_;unfold Q1u at h;refine cP h Vj p2 fun v1 h=>?_;cases h;exact (.p _)
def Vs (_N:Nat) (r_0:Int):Option Bool:=
 cond (Q3 .leq 0 r_0)
 (cond (Q3 .lss r_0 55296)
 (some true)
 (cond (Q3 .lss 57343 r_0)
 (cond (Q3 .leq r_0 1114111)
 (some true)
 (some false))
 (some false)))
 (cond (Q3 .lss 57343 r_0)
 (cond (Q3 .leq r_0 1114111)
 (some true)
 (some false))
 (some false))
theorem Q7e {N} {r_0} {r} (h:Vs N r_0=some r):pU 396 [.int .i32 r_0] (.bool r):=by
 refine Q0 Zdm ?_;unfold Vs at h;rw [cX] at h;apply iU h<;>intro h
 ·refine iL h fun h=>?_;refine iR h fun h=>?_;exact iB h
 refine iR h fun h=>?_;exact iB h
def Yl (N:Nat) (s_0:List UInt8):Nat→Nat→Option Int
 | 0,_=>none
 | n+1,pos13=>
  cond (Nat.blt pos13 s_0.length)
  (cond (Q3 .eql (((Qfg s_0 pos13).1:Nat):Int) 65533)
  (some ((pos13:Nat):Int))
  (Yl N s_0 n (pos13+(Qfg s_0 pos13).2)))
  (some (-1))
def Ux (N:Nat) (s_0:List UInt8) (r_1:Int) (v82:Int):Nat→Int→Option Int
 | 0,_=>none
 | n+1,j98=>
  cond (Q3 .lss j98 (((Utf8.encode r_1).data.toList).length:Int))
  ((idx s_0 (wrap .i64 ((wrap .i64 ((wrap .i64 ((((Utf8.encode r_1).data.toList).length:Int) - 1))+(wrap .i64 (v82+1)))) - j98))).bind fun b100=>
  (idx ((Utf8.encode r_1).data.toList) (wrap .i64 ((wrap .i64 ((((Utf8.encode r_1).data.toList).length:Int) - 1)) - j98))).bind fun b102=>
  cond (Q3 .neq (b100.toNat:Int) (b102.toNat:Int))
  (none)
  (Ux N s_0 r_1 v82 n (wrap .i64 (j98+1))))
  (some (wrap .i64 ((wrap .i64 ((wrap .i64 ((((Utf8.encode r_1).data.toList).length:Int) - 1))+(wrap .i64 (v82+1)))) - (wrap .i64 ((((Utf8.encode r_1).data.toList).length:Int) - 1)))))
def Ut (N:Nat) (s_0:List UInt8) (r_1:Int):Nat→Int→Option Int
 | 0,_=>none
 | n+1,j118=>
  cond (Q3 .lss j118 (((Utf8.encode r_1).data.toList).length:Int))
  ((idx s_0 (wrap .i64 ((wrap .i64 ((((Utf8.encode r_1).data.toList).length:Int) - 1)) - j118))).bind fun b120=>
  (idx ((Utf8.encode r_1).data.toList) (wrap .i64 ((wrap .i64 ((((Utf8.encode r_1).data.toList).length:Int) - 1)) - j118))).bind fun b122=>
  cond (Q3 .neq (b120.toNat:Int) (b122.toNat:Int))
  (none)
  (Ut N s_0 r_1 n (wrap .i64 (j118+1))))
  (some (wrap .i64 ((wrap .i64 ((((Utf8.encode r_1).data.toList).length:Int) - 1)) - (wrap .i64 ((((Utf8.encode r_1).data.toList).length:Int) - 1)))))
def Vc (N:Nat) (s_0:List UInt8) (r_1:Int):Nat→Option Int
 | 0=>none
 | n+1=>
  cond (Q3 .lss (wrap .i64 ((((Utf8.encode r_1).data.toList).length:Int) - 1)) (s_0.length:Int))
  ((idx s_0 (wrap .i64 ((((Utf8.encode r_1).data.toList).length:Int) - 1))).bind fun b73=>
  (idx ((Utf8.encode r_1).data.toList) (wrap .i64 ((((Utf8.encode r_1).data.toList).length:Int) - 1))).bind fun b75=>
  cond (Q3 .neq (b73.toNat:Int) (b75.toNat:Int))
  (cond (decide (0≤(wrap .i64 ((wrap .i64 ((((Utf8.encode r_1).data.toList).length:Int) - 1))+1)))) (cond (Nat.ble (wrap .i64 ((wrap .i64 ((((Utf8.encode r_1).data.toList).length:Int) - 1))+1)).toNat s_0.length&&Nat.ble s_0.length s_0.length) ((idx ((Utf8.encode r_1).data.toList) (wrap .i64 ((((Utf8.encode r_1).data.toList).length:Int) - 1))).bind fun b80=>
  (Q1u N ((s_0.take s_0.length).drop ((wrap .i64 ((wrap .i64 ((((Utf8.encode r_1).data.toList).length:Int) - 1))+1)).toNat)) (b80.toNat:Int)).bind fun v82=>
  cond (Q3 .lss v82 0)
  (some (-1))
  (Ux N s_0 r_1 v82 N 1)) none) none)
  (Ut N s_0 r_1 N 1))
  (some (-1))
def Uu (N:Nat) (s_0:List UInt8) (r_1:Int) (s2:Bool):Option Int:=
 cond s2
 ((Q1u N s_0 (wrap .u8 r_1)).bind fun v5=>
 some v5)
 (cond (Q3 .eql r_1 65533)
 (Yl N s_0 N 0)
 ((Vs N r_1).bind fun v16=>
 cond (!v16)
 (some (-1))
 (Vc N s_0 r_1 N)))
def Q1s (N:Nat) (s_0:List UInt8) (r_1:Int):Option Int:=
 cond (Q3 .leq 0 r_1)
 (Uu N s_0 r_1 (Q3 .lss r_1 128))
 (Uu N s_0 r_1 false)
theorem Qaw {N} {s_0} {r_1} {r} (h:Q1s N s_0 r_1=some r):pU 325 [.str s_0,.int .i32 r_1] (.int .i64 r):=by
 refine Q0 Zb1 ?_;unfold Q1s at h;rw [cX] at h;refine jrH (r:=r) (σ:=Bool) (fun s2=>(iS s_0 :: .p (.int .i32 r_1)::a16 (a16 (a16 (a16 (a16 (a16 (a16 (a16 (a16 (a8 (a4 (a2 (.p (.bool s2)::a16 (a8 (a2 ([]))))))))))))))):List AV)) (fun s2=>Uu N s_0 r_1 s2) ?_ ?_
 ·apply iU h<;>intro h
  ·show Exists _;exact ⟨((Qlv .lss r_1 128)),h,(fun i=>i),Yn⟩
  show Exists _;exact ⟨(false),h,(fun i=>i),Yn⟩
 rintro s2 h
 unfold Uu at h;rw [cX] at h;apply iU h<;>intro h
 ·refine cP h Q5m p2 fun v5 h=>?_;cases h;exact (.p _)
 apply iU h<;>intro h
 ·refine lpA (τ:=Nat) (fun _=>(a16 (a16 (a16 (a16 (a16 (a16 (a16 (a16 (a16 (a16 (a8 (a4 (a2 (.any :: .ptr 0 0::a8 (a2 (.any :: []))))))))))))))):List AV)) (fun pos13=>(.strIter s_0 pos13 :: []:List AObj)) (fun n1 pos13=>Yl N s_0 n1 pos13) (0) h fun n1 pos13 h=>?_
  first | rw [Yl] at h | simp only [Yl] at h
  rw [cX] at h;refine iR h fun h=>?_;refine iL h fun h=>?_;show Exists _;exact ⟨(n1,(pos13+(Qfg s_0 pos13).2)),h,Lf _,(fun i=>i),Yn⟩
 refine cP h Q7e p1 fun v16 h=>?_;refine iL h fun h=>?_;refine lpH (τ:=Unit) (fun _=>(iS s_0::a4 (a2 (iS ((Utf8.encode r_1).data.toList) :: .p (.int .i64 (wrap .i64 ((((Utf8.encode r_1).data.toList).length:Int) - 1))) :: .p (.int .i64 (wrap .i64 ((((Utf8.encode r_1).data.toList).length:Int) - 1)))::a16 (a16 (a16 (a16 (a16 (a16 (a16 (a16 (a16 (a16 (a16 (.any :: []))))))))))))):List AV)) (fun n2 ⟨⟩=>Vc N s_0 r_1 n2) () h fun n2 ⟨⟩ h=>?_
 first | rw [Vc] at h | simp only [Vc] at h
 rw [cX] at h;refine iR h fun h=>?_;refine Qk ?_;refine xB h fun b73 h=>?_;refine xB h fun b75 h=>?_;apply iU h<;>intro h
 ·refine Qk ?_;refine kU h fun h=>?_;refine kU h fun h=>?_;refine xB h fun b80 h=>?_;refine cD h Q5m p2 fun v82 h=>?_;refine iL h fun h=>?_;refine lpH (τ:=Int) (fun j98=>(iS s_0::a4 (a2 (iS ((Utf8.encode r_1).data.toList) :: .p (.int .i64 (wrap .i64 ((((Utf8.encode r_1).data.toList).length:Int) - 1))) :: .p (.int .i64 (wrap .i64 ((wrap .i64 ((((Utf8.encode r_1).data.toList).length:Int) - 1))+(wrap .i64 (v82+1))))) :: .any :: .any::iI j98::a16 (a16 (a16 (a16 (a16 (a16 (a16 (a16 (a16 (a16 (a8 (a4 (a2 ([]))))))))))))))):List AV)) (fun n3 j98=>Ux N s_0 r_1 v82 n3 j98) (1) h fun n3 j98 h=>?_
  first | rw [Ux] at h | simp only [Ux] at h
  rw [cX] at h;refine iR h fun h=>?_;refine Qk ?_;refine xB h fun b100 h=>?_;refine xB h fun b102 h=>?_;apply iU h<;>intro h
  ·first | (cases h;done) | (simp [Qby] at h;done)
  show Exists _;exact ⟨(n3,(wrap .i64 (j98+1))),h,Lf _,(fun i=>i),Yn⟩
 refine lpH (τ:=Int) (fun j118=>(iS s_0::a4 (a2 (iS ((Utf8.encode r_1).data.toList) :: .p (.int .i64 (wrap .i64 ((((Utf8.encode r_1).data.toList).length:Int) - 1))) :: .p (.int .i64 (wrap .i64 ((((Utf8.encode r_1).data.toList).length:Int) - 1))) :: .any :: .any::iI j118::a16 (a16 (a16 (a16 (a16 (a16 (a16 (a16 (a16 (a16 (a8 (a4 (a2 ([]))))))))))))))):List AV)) (fun n4 j118=>Ut N s_0 r_1 n4 j118) (1) h fun n4 j118 h=>?_
 first | rw [Ut] at h | simp only [Ut] at h
 rw [cX] at h;refine iR h fun h=>?_;refine Qk ?_;refine xB h fun b120 h=>?_;refine xB h fun b122 h=>?_;apply iU h<;>intro h
 ·first | (cases h;done) | (simp [Qby] at h;done)
 show Exists _;exact ⟨(n4,(wrap .i64 (j118+1))),h,Lf _,(fun i=>i),Yn⟩
def Q01 (_N:Nat) (bufLen:Int):Option Bool:=
 some (Q3 .gtr bufLen 8)
theorem Q6e {N} {bufLen} {r} (h:Q01 N bufLen=some r):pU 326 [.int .i64 bufLen] (.bool r):=by
 refine Q0 Zcs ?_;unfold Q01 at h;rw [cX] at h;cases h;exact (.p _)
def Wg (N:Nat) (s_0:List UInt8):Nat→Int→Option Int
 | 0,_=>none
 | n+1,i20=>
  cond (Q3 .lss i20 (s_0.length:Int))
  ((idx s_0 i20).bind fun b22=>
  cond (decide (0≤(b22.toNat:Int))&&decide ((b22.toNat:Int)<((256:Nat):Int))) ((idx ([false,false,false,false,false,false,false,false,false,false,false,false,false,false,false,false,false,false,false,false,false,false,false,false,false,false,false,false,false,false,false,false,false,false,false,true,false,false,false,false,false,false,false,true,false,false,false,false,false,false,false,false,false,false,false,false,false,false,false,false,false,false,false,false,false,false,false,false,false,false,false,false,false,false,false,false,false,false,false,false,false,false,false,false,false,false,false,false,false,false,false,false,false,false,false,false,false,false,false,false,false,false,false,false,false,false,false,false,false,false,false,false,false,false,false,false,false,false,false,false,false,false,false,false,false,false,false,false,false,false,false,false,false,false,false,false,false,false,false,false,false,false,false,false,false,false,false,false,false,false,false,false,false,false,false,false,false,false,false,false,false,false,false,false,false,false,false,false,false,false,false,false,false,false,false,false,false,false,false,false,false,false,false,false,false,false,false,false,false,false,false,false,false,false,false,false,false,false,false,false,false,false,false,false,false,false,false,false,false,false,false,false,false,false,false,false,false,false,false,false,false,false,false,false,false,false,false,false,false,false,false,false,false,false,false,false,false,false,false,false,false,false,false,false,false,false,false,false,false,false,false,false,false,false,false,false]:List Bool) (b22.toNat:Int)).bind fun y24=>
  cond y24
  (some i20)
  (Wg N s_0 n (wrap .i64 (i20+1)))) none)
  (some (-1))
def Wf (N:Nat) (s_0:List UInt8):Nat→Nat→Option Int
 | 0,_=>none
 | n+1,pos37=>
  cond (Nat.blt pos37 s_0.length)
  ((Q1s N [43,35] (((Qfg s_0 pos37).1:Nat):Int)).bind fun v39=>
  cond (Q3 .geq v39 0)
  (some ((pos37:Nat):Int))
  (Wf N s_0 n (pos37+(Qfg s_0 pos37).2)))
  (some (-1))
def Q0z (N:Nat) (s_0:List UInt8):Option Int:=
 cond (Q0p .eql [43,35] [])
 (some (-1))
 ((Q01 N (s_0.length:Int)).bind fun v2=>
 cond v2
 (Wg N s_0 N 0)
 (Wf N s_0 N 0))
theorem Q8l {N} {s_0} {r} (h:Q0z N s_0=some r):pU 246 [.str s_0,.str [43,35]] (.int .i64 r):=by
 refine Q0 Zgb ?_;unfold Q0z at h;rw [cY] at h;refine iL h fun h=>?_;refine dF ?_;refine cP h Q6e p1 fun v2 h=>?_;apply iU h<;>intro h
 ·refine Zy Z9c ?_;refine Qdd 4 ?_;refine dT ?_;refine dF ?_;refine dT ?_;refine dF ?_;refine dF ?_;refine lpH (τ:=Int) (fun i20=>(iS s_0::a4 (.any :: .ptr 1 0 :: .any::iI i20::a16 (a16 (a8 (a4 (a2 ([])))))):List AV)) (fun n0 i20=>Wg N s_0 n0 i20) (0) h fun n0 i20 h=>?_
  first | rw [Wg] at h | simp only [Wg] at h
  rw [cX] at h;refine iR h fun h=>?_;refine xB h fun b22 h=>?_;refine Zy Za4 ?_;refine kU h fun h=>?_;obtain ⟨y24,hy25,h⟩:=Q36 h
  refine Qag (c:=cB) (e:=1) (fun _=>rfl) hy25 (off:=0) (by decide) (by first | omega | (simp only [Q6v,orI,Qnh,Q2e,Qb3,Qcl];omega)) ?_
  refine iL h fun h=>?_;show Exists _;exact ⟨(n0,(wrap .i64 (i20+1))),h,Lf _,(fun i=>i),Yn⟩
 refine lpA (τ:=Nat) (fun _=>(.any :: .p (.str [43,35])::a16 (a16 (a8 (a2 (.any :: .ptr 0 0::a8 (.any :: []))))):List AV)) (fun pos37=>(.strIter s_0 pos37 :: []:List AObj)) (fun n1 pos37=>Wf N s_0 n1 pos37) (0) h fun n1 pos37 h=>?_
 first | rw [Wf] at h | simp only [Wf] at h
 rw [cX] at h;refine iR h fun h=>?_;refine cP h Qaw p2 fun v39 h=>?_;refine iL h fun h=>?_;show Exists _;exact ⟨(n1,(pos37+(Qfg s_0 pos37).2)),h,Lf _,(fun i=>i),Yn⟩
def Xk (N:Nat) (s_0:List UInt8):Option Bool:=
 (Q0z N s_0).bind fun v1=>
 some (Q3 .geq v1 0)
theorem Q0a {N} {s_0} {r} (h:Xk N s_0=some r):pU 182 [.str s_0,.str [43,35]] (.bool r):=by
 refine Q0 Zo2 ?_;unfold Xk at h;rw [cX] at h;refine cP h Q8l p2 fun v1 h=>?_;cases h;exact (.p _)
def Jl (N:Nat) (s_0:List UInt8):Option Bool:=
 (Q65 N s_0).bind fun v1=>
 cond v1
 ((Xk N s_0).bind fun v4=>
 some (!v4))
 (some false)
theorem Q05 {N} {s_0} {r} (h:Jl N s_0=some r):pU 98 [.str s_0] (.bool r):=by
 refine Q0 k98 ?_;unfold Jl at h;refine cP h Qbr p1 fun v1 h=>?_;refine iR h fun h=>?_;refine cP h Q0a p2 fun v4 h=>?_;cases h;exact (.p _)
def Q7d (_N:Nat) (version:Int):Option Bool:=
 cond (Q3 .eql version 4)
 (some true)
 (some (Q3 .eql version 5))
theorem Qdy {N} {version} {r} (h:Q7d N version=some r):pU 295 [.int .i64 version] (.bool r):=by
 refine Q0 Zk1 ?_;unfold Q7d at h;rw [cX] at h;exact iB h
def Q61 (_N:Nat) (kind:Int):Option Bool:=
 cond (Q3 .eql kind 1)
 (some true)
 (some (Q3 .eql kind 2))
theorem Qge {N} {kind} {r} (h:Q61 N kind=some r):pU 296 [.int .i64 kind] (.bool r):=by
 refine Q0 Znp ?_;unfold Q61 at h;rw [cX] at h;exact iB h
def Q80 (_N:Nat) (p:Q1):Option (Q8k):=
 some (⟨p.Kind,p.QoS,p.ID,p.KeepAlive,p.Code,p.Dup,p.Retain,p.Clean,p.HasUser,p.HasPass,p.HasWill,p.Session,p.Topic,p.Payload,p.Client,p.User,p.Pass⟩:Q8k)
theorem Qb8 {N} {p} {r} (h:Q80 N p=some r):pU 248 [.agg (Q1.cells p)] (.agg (Q8k.cells r)):=by
 refine Q0 Zh3 ?_;unfold Q80 at h;obtain rfl:=Qm h;exact (Ap (f8_ (f2_ (f1_ (.cons (.p _) p5)))))
def Q2u (_N:Nat) (a:Qb) (b:Qb):Option Bool:=
 some (((a.ID:Int) == b.ID)&&(((a.N':Int) == b.N')&&(((a.Text:List UInt8) == b.Text)&&(((a.Value:List UInt8) == b.Value)&&true))))
theorem Q8m {N} {a} {b} {r} (h:Q2u N a b=some r):pU 334 [.agg (Qb.cells a),.agg (Qb.cells b)] (.bool r):=by
 refine Q0 Zje ?_;unfold Q2u at h;cases h;exact (.p _)
def V0 (N:Nat) (a:List Qb) (b:List Qb):Nat→Int→Option Bool
 | 0,_=>none
 | n+1,s19=>
  cond (Q3 .lss s19 ((Q6 Qb.cells a).length:Int))
  ((idx a s19).bind fun y21=>
  (idx b s19).bind fun y23=>
  (Q2u N y21 y23).bind fun v25=>
  cond (!v25)
  (some false)
  (V0 N a b n (wrap .i64 (s19+1))))
  (some true)
def Uj (N:Nat) (a:List Qb) (b:List Qb):Option Bool:=
 cond (Q3 .neq ((Q6 Qb.cells a).length:Int) ((Q6 Qb.cells b).length:Int))
 (some false)
 (V0 N a b N 0)
theorem Q4u {N} {a} {b} {r} (h:Uj N a b=some r):pU 252 [.slice 4 (Q6 Qb.cells a),.slice 4 (Q6 Qb.cells b)] (.bool r):=by
 refine Q0 Zlz ?_;unfold Uj at h;rw [cX] at h;refine Zy Zhc ?_;refine iL h fun h=>?_;refine lpH (τ:=Int) (fun s19=>(.any :: .p (.slice 4 (Q6 Qb.cells b)) :: .p (.func (.func 334) [] [])::a8 (a4 (.p (.slice 4 (Q6 Qb.cells a))::iI ((Q6 Qb.cells a).length:Int)::iI s19::a8 (a4 (a2 ([]))))):List AV)) (fun n0 s19=>V0 N a b n0 s19) (0) h fun n0 s19 h=>?_
 first | rw [V0] at h | simp only [V0] at h
 rw [cX] at h;refine iR h fun h=>?_;refine xR h fun y21 h=>?_;refine xR h fun y23 h=>?_;refine cP h Q8m (.cons q4 (.cons q4 .nil)) fun v25 h=>?_;refine iL h fun h=>?_;show Exists _;exact ⟨(n0,(wrap .i64 (s19+1))),h,Lf _,(fun i=>i),Yn⟩
def Q2w (N:Nat) (a:Xn) (b:Xn):Option Bool:=
 cond (Q0p .eql a.Topic b.Topic)
 (cond (Q0p .eql a.Payload b.Payload)
 (cond (Q3 .eql a.QoS b.QoS)
 (cond (a.Retain == b.Retain)
 ((Uj N a.Props b.Props).bind fun v5=>
 some v5)
 (some false))
 (some false))
 (some false))
 (some false)
theorem Qdv {N} {a} {b} {r} (h:Q2w N a b=some r):pU 249 [.agg (Xn.cells a),.agg (Xn.cells b)] (.bool r):=by
 refine Q0 Zd9 ?_;unfold Q2w at h;rw [cX,cY] at h;refine iR h fun h=>?_;refine iR h fun h=>?_;refine iR h fun h=>?_;refine iR h fun h=>?_;refine cP h Q4u p2 fun v5 h=>?_;cases h;exact (.p _)
def Q6j (_N:Nat) (a:Int) (b:Int):Option Bool:=
 some (Q3 .eql a b)
theorem Qd6 {N} {a} {b} {r} (h:Q6j N a b=some r):pU 330 [.int .i64 a,.int .i64 b] (.bool r):=by
 refine Q0 Zma ?_;unfold Q6j at h;rw [cX] at h;cases h;exact (.p _)
def Jw (N:Nat) (a:List Int) (b:List Int):Nat→Int→Option Bool
 | 0,_=>none
 | n+1,s19=>
  cond (Q3 .lss s19 ((Q6 (cI .i64) a).length:Int))
  ((idx a s19).bind fun y21=>
  (idx b s19).bind fun y23=>
  (Q6j N y21 y23).bind fun v25=>
  cond (!v25)
  (some false)
  (Jw N a b n (wrap .i64 (s19+1))))
  (some true)
def Q2p (N:Nat) (a:List Int) (b:List Int):Option Bool:=
 cond (Q3 .neq ((Q6 (cI .i64) a).length:Int) ((Q6 (cI .i64) b).length:Int))
 (some false)
 (Jw N a b N 0)
theorem Qev {N} {a} {b} {r} (h:Q2p N a b=some r):pU 250 [.slice 1 (Q6 (cI .i64) a),.slice 1 (Q6 (cI .i64) b)] (.bool r):=by
 refine Q0 Zfh ?_;unfold Q2p at h;rw [cX] at h;refine Zy Zli ?_;refine iL h fun h=>?_;refine lpH (τ:=Int) (fun s19=>(.any :: .p (.slice 1 (Q6 (cI .i64) b)) :: .p (.func (.func 330) [] [])::a8 (a4 (.p (.slice 1 (Q6 (cI .i64) a)) :: .p (.int .i64 ((Q6 (cI .i64) a).length:Int))::iI s19::a8 (a4 (a2 ([]))))):List AV)) (fun n0 s19=>Jw N a b n0 s19) (0) h fun n0 s19 h=>?_
 first | rw [Jw] at h | simp only [Jw] at h
 rw [cX] at h;refine iR h fun h=>?_;refine xR h fun y21 h=>?_;refine xR h fun y23 h=>?_;refine cP h Qd6 p2 fun v25 h=>?_;refine iL h fun h=>?_;show Exists _;exact ⟨(n0,(wrap .i64 (s19+1))),h,Lf _,(fun i=>i),Yn⟩
def Q1z (_N:Nat) (a:Qg) (b:Qg):Option Bool:=
 some (((a.Topic:List UInt8) == b.Topic)&&(((a.QoS:Int) == b.QoS)&&(((a.NoLocal:Bool) == b.NoLocal)&&(((a.AsPublished:Bool) == b.AsPublished)&&(((a.Handling:Int) == b.Handling)&&true)))))
theorem Q7x {N} {a} {b} {r} (h:Q1z N a b=some r):pU 332 [.agg (Qg.cells a),.agg (Qg.cells b)] (.bool r):=by
 refine Q0 Zld ?_;unfold Q1z at h;cases h;exact (.p _)
def W1 (N:Nat) (a:List Qg) (b:List Qg):Nat→Int→Option Bool
 | 0,_=>none
 | n+1,s19=>
  cond (Q3 .lss s19 ((Q6 Qg.cells a).length:Int))
  ((idx a s19).bind fun y21=>
  (idx b s19).bind fun y23=>
  (Q1z N y21 y23).bind fun v25=>
  cond (!v25)
  (some false)
  (W1 N a b n (wrap .i64 (s19+1))))
  (some true)
def Uv (N:Nat) (a:List Qg) (b:List Qg):Option Bool:=
 cond (Q3 .neq ((Q6 Qg.cells a).length:Int) ((Q6 Qg.cells b).length:Int))
 (some false)
 (W1 N a b N 0)
theorem Q8a {N} {a} {b} {r} (h:Uv N a b=some r):pU 251 [.slice 5 (Q6 Qg.cells a),.slice 5 (Q6 Qg.cells b)] (.bool r):=by
 refine Q0 Zox ?_;unfold Uv at h;rw [cX] at h;refine Zy Zl4 ?_;refine iL h fun h=>?_;refine lpH (τ:=Int) (fun s19=>(.any :: .p (.slice 5 (Q6 Qg.cells b)) :: .p (.func (.func 332) [] [])::a8 (a4 (.p (.slice 5 (Q6 Qg.cells a))::iI ((Q6 Qg.cells a).length:Int)::iI s19::a8 (a4 (a2 ([]))))):List AV)) (fun n0 s19=>W1 N a b n0 s19) (0) h fun n0 s19 h=>?_
 first | rw [W1] at h | simp only [W1] at h
 rw [cX] at h;refine iR h fun h=>?_;refine xR h fun y21 h=>?_;refine xR h fun y23 h=>?_;refine cP h Q7x (.cons (Ap p5) (.cons (Ap p5) .nil)) fun v25 h=>?_;refine iL h fun h=>?_;show Exists _;exact ⟨(n0,(wrap .i64 (s19+1))),h,Lf _,(fun i=>i),Yn⟩
def Z6 (N:Nat) (a:Q1) (b:Q1):Option Bool:=
 (Q80 N a).bind fun v1=>
 (Q80 N b).bind fun v3=>
 cond (((v1.kind:Int) == v3.kind)&&(((v1.qos:Int) == v3.qos)&&(((v1.id:Int) == v3.id)&&(((v1.alive:Int) == v3.alive)&&(((v1.code:Int) == v3.code)&&(((v1.dup:Bool) == v3.dup)&&(((v1.retain:Bool) == v3.retain)&&(((v1.clean:Bool) == v3.clean)&&(((v1.user:Bool) == v3.user)&&(((v1.pass:Bool) == v3.pass)&&(((v1.will:Bool) == v3.will)&&(((v1.again:Bool) == v3.again)&&(((v1.topic:List UInt8) == v3.topic)&&(((v1.payload:List UInt8) == v3.payload)&&(((v1.client:List UInt8) == v3.client)&&(((v1.name:List UInt8) == v3.name)&&(((v1.word:List UInt8) == v3.word)&&true)))))))))))))))))
 ((Q2w N a.Will b.Will).bind fun v6=>
 cond v6
 ((Q2p N a.Codes b.Codes).bind fun v9=>
 cond v9
 ((Uv N a.Filters b.Filters).bind fun v12=>
 cond v12
 ((Uj N a.Props b.Props).bind fun v15=>
 some v15)
 (some false))
 (some false))
 (some false))
 (some false)
theorem Zc {N} {a} {b} {r} (h:Z6 N a b=some r):pU 185 [.agg (Q1.cells a),.agg (Q1.cells b)] (.bool r):=by
 refine Q0 Zcz ?_;unfold Z6 at h;refine Qk ?_;obtain ⟨v1,hv2,h⟩:=Q36 h;refine Q48 (Qb8 hv2) (.cons (Ap (Qo (f8_ (.cons (.p _) .nil)))) .nil) ?_;obtain ⟨v3,hv4,h⟩:=Q36 h;refine Q48 (Qb8 hv4) (.cons (Ap (Qo (f8_ (.cons (.p _) .nil)))) .nil) ?_;refine Qn9 (ks := [0,0,0,0,0,2,2,2,2,2,2,2,1,1,1,1,1]) (xs := [.p (.int .i64 v1.kind),.p (.int .i64 v1.qos),.p (.int .i64 v1.id),.p (.int .i64 v1.alive),.p (.int .i64 v1.code),.p (.bool v1.dup),.p (.bool v1.retain),.p (.bool v1.clean),.p (.bool v1.user),.p (.bool v1.pass),.p (.bool v1.will),.p (.bool v1.again),.p (.str v1.topic),.p (.str v1.payload),.p (.str v1.client),.p (.str v1.name),.p (.str v1.word)]) (ys := [.p (.int .i64 v3.kind),.p (.int .i64 v3.qos),.p (.int .i64 v3.id),.p (.int .i64 v3.alive),.p (.int .i64 v3.code),.p (.bool v3.dup),.p (.bool v3.retain),.p (.bool v3.clean),.p (.bool v3.user),.p (.bool v3.pass),.p (.bool v3.will),.p (.bool v3.again),.p (.str v3.topic),.p (.str v3.payload),.p (.str v3.client),.p (.str v3.name),.p (.str v3.word)]) (b:=(((v1.kind:Int) == v3.kind)&&(((v1.qos:Int) == v3.qos)&&(((v1.id:Int) == v3.id)&&(((v1.alive:Int) == v3.alive)&&(((v1.code:Int) == v3.code)&&(((v1.dup:Bool) == v3.dup)&&(((v1.retain:Bool) == v3.retain)&&(((v1.clean:Bool) == v3.clean)&&(((v1.user:Bool) == v3.user)&&(((v1.pass:Bool) == v3.pass)&&(((v1.will:Bool) == v3.will)&&(((v1.again:Bool) == v3.again)&&(((v1.topic:List UInt8) == v3.topic)&&(((v1.payload:List UInt8) == v3.payload)&&(((v1.client:List UInt8) == v3.client)&&(((v1.name:List UInt8) == v3.name)&&(((v1.word:List UInt8) == v3.word)&&true)))))))))))))))))) rfl ?_;refine ifO h (fun hc5 h=>?_) (fun hc5 h=>?_)
 ·obtain ⟨v6,hv7,h⟩:=Q36 h;refine Q48 (Qdv hv7) (.cons (Ap (f4_ (.cons (.p _) .nil))) (.cons (Ap (f4_ (.cons (.p _) .nil))) .nil)) ?_;refine ifO h (fun hc8 h=>?_) (fun hc8 h=>?_)
  ·obtain ⟨v9,hv10,h⟩:=Q36 h;refine Q48 (Qev hv10) (.cons (.p _) (.cons (.p _) .nil)) ?_;refine ifO h (fun hc11 h=>?_) (fun hc11 h=>?_)
   ·obtain ⟨v12,hv13,h⟩:=Q36 h;refine Q48 (Q8a hv13) (.cons (.p _) (.cons (.p _) .nil)) ?_;refine ifO h (fun hc14 h=>?_) (fun hc14 h=>?_)
    ·obtain ⟨v15,hv16,h⟩:=Q36 h;refine Q48 (Q4u hv16) (.cons (.p _) (.cons (.p _) .nil)) ?_;have hr:=Qm h;subst hr;exact (.p _)
    have hr:=Qm h;subst hr;exact (.p _)
   have hr:=Qm h;subst hr;exact (.p _)
  have hr:=Qm h;subst hr;exact (.p _)
 have hr:=Qm h;subst hr;exact (.p _)
def Q2y (N:Nat) (p:Q1):Option Bool:=
 cond (Q3 .eql p.Kind 2)
 ((Z6 N p (⟨p.Kind,false,false,0,0,[],[],false,0,[],false,[],false,[],false,(⟨[],[],0,false,[]⟩:Xn),p.Session,p.Code,[],[],p.Props⟩:Q1)).bind fun v2=>
 some v2)
 (cond p.HasWill
 (cond p.HasUser
 (cond p.HasPass
 ((Z6 N p (⟨p.Kind,false,false,0,0,[],[],p.Clean,p.KeepAlive,p.Client,p.HasUser,p.User,p.HasPass,p.Pass,p.HasWill,p.Will,false,0,[],[],p.Props⟩:Q1)).bind fun v7=>
 some v7)
 ((Z6 N p (⟨p.Kind,false,false,0,0,[],[],p.Clean,p.KeepAlive,p.Client,p.HasUser,p.User,p.HasPass,[],p.HasWill,p.Will,false,0,[],[],p.Props⟩:Q1)).bind fun v9=>
 some v9))
 (cond p.HasPass
 ((Z6 N p (⟨p.Kind,false,false,0,0,[],[],p.Clean,p.KeepAlive,p.Client,p.HasUser,[],p.HasPass,p.Pass,p.HasWill,p.Will,false,0,[],[],p.Props⟩:Q1)).bind fun v12=>
 some v12)
 ((Z6 N p (⟨p.Kind,false,false,0,0,[],[],p.Clean,p.KeepAlive,p.Client,p.HasUser,[],p.HasPass,[],p.HasWill,p.Will,false,0,[],[],p.Props⟩:Q1)).bind fun v14=>
 some v14)))
 (cond p.HasUser
 (cond p.HasPass
 ((Z6 N p (⟨p.Kind,false,false,0,0,[],[],p.Clean,p.KeepAlive,p.Client,p.HasUser,p.User,p.HasPass,p.Pass,p.HasWill,(⟨[],[],0,false,[]⟩:Xn),false,0,[],[],p.Props⟩:Q1)).bind fun v18=>
 some v18)
 ((Z6 N p (⟨p.Kind,false,false,0,0,[],[],p.Clean,p.KeepAlive,p.Client,p.HasUser,p.User,p.HasPass,[],p.HasWill,(⟨[],[],0,false,[]⟩:Xn),false,0,[],[],p.Props⟩:Q1)).bind fun v20=>
 some v20))
 (cond p.HasPass
 ((Z6 N p (⟨p.Kind,false,false,0,0,[],[],p.Clean,p.KeepAlive,p.Client,p.HasUser,[],p.HasPass,p.Pass,p.HasWill,(⟨[],[],0,false,[]⟩:Xn),false,0,[],[],p.Props⟩:Q1)).bind fun v23=>
 some v23)
 ((Z6 N p (⟨p.Kind,false,false,0,0,[],[],p.Clean,p.KeepAlive,p.Client,p.HasUser,[],p.HasPass,[],p.HasWill,(⟨[],[],0,false,[]⟩:Xn),false,0,[],[],p.Props⟩:Q1)).bind fun v25=>
 some v25))))
theorem Qfb {N} {p} {r} (h:Q2y N p=some r):pU 364 [.agg (Q1.cells p)] (.bool r):=by
 refine Q0 Zj7 ?_;unfold Q2y at h;rw [cX] at h;apply iU h<;>intro h
 ·refine Qk ?_;refine cP h Zc (.cons (Ap (Qo (f2_ (f1_ (.cons (.p _) p5))))) (.cons (Ap (Qo (f2_ (f1_ (.cons (.nil _) (f2_ (.cons (.nil _) (.cons (.nil _) p1)))))))) .nil)) fun v2 h=>?_;cases h;exact (.p _)
 refine Qk ?_;apply iU h<;>intro h
 ·apply iU h<;>intro h
  ·apply iU h<;>intro h
   ·refine cP h Zc (.cons (Ap (Qo (f2_ (f1_ (.cons (.p _) p5))))) (.cons (Ap (Qo (f4_ (f2_ (.cons (.nil _) (.cons (.nil _) p1)))))) .nil)) fun v7 h=>?_;cases h;exact (.p _)
   refine cP h Zc (.cons (Ap (Qo (f2_ (f1_ (.cons (.p _) p5))))) (.cons (Ap (Qo (f4_ (f2_ (.cons (.nil _) (.cons (.nil _) p1)))))) .nil)) fun v9 h=>?_;cases h;exact (.p _)
  apply iU h<;>intro h
  ·refine cP h Zc (.cons (Ap (Qo (f2_ (f1_ (.cons (.p _) p5))))) (.cons (Ap (Qo (f4_ (f2_ (.cons (.nil _) (.cons (.nil _) p1)))))) .nil)) fun v12 h=>?_;cases h;exact (.p _)
  refine cP h Zc (.cons (Ap (Qo (f2_ (f1_ (.cons (.p _) p5))))) (.cons (Ap (Qo (f4_ (f2_ (.cons (.nil _) (.cons (.nil _) p1)))))) .nil)) fun v14 h=>?_;cases h;exact (.p _)
 apply iU h<;>intro h
 ·apply iU h<;>intro h
  ·refine cP h Zc (.cons (Ap (Qo (f2_ (f1_ (.cons (.p _) p5))))) (.cons (Ap (Qo (f2_ (f1_ (.cons (.nil _) (f2_ (.cons (.nil _) (.cons (.nil _) p1)))))))) .nil)) fun v18 h=>?_;cases h;exact (.p _)
  refine cP h Zc (.cons (Ap (Qo (f2_ (f1_ (.cons (.p _) p5))))) (.cons (Ap (Qo (f2_ (f1_ (.cons (.nil _) (f2_ (.cons (.nil _) (.cons (.nil _) p1)))))))) .nil)) fun v20 h=>?_;cases h;exact (.p _)
 apply iU h<;>intro h
 ·refine cP h Zc (.cons (Ap (Qo (f2_ (f1_ (.cons (.p _) p5))))) (.cons (Ap (Qo (f2_ (f1_ (.cons (.nil _) (f2_ (.cons (.nil _) (.cons (.nil _) p1)))))))) .nil)) fun v23 h=>?_;cases h;exact (.p _)
 refine cP h Zc (.cons (Ap (Qo (f2_ (f1_ (.cons (.p _) p5))))) (.cons (Ap (Qo (f2_ (f1_ (.cons (.nil _) (f2_ (.cons (.nil _) (.cons (.nil _) p1)))))))) .nil)) fun v25 h=>?_;cases h;exact (.p _)
def Q4q (_N:Nat) (code:Int):Option Bool:=
 cond (Q3 .leq 0 code)
 (some (Q3 .leq code 5))
 (some false)
theorem Qeg {N} {code} {r} (h:Q4q N code=some r):pU 425 [.int .i64 code] (.bool r):=by
 refine Q0 Zbx ?_;unfold Q4q at h;rw [cX] at h;exact iB h
def Q27 (N:Nat) (version:Int) (p:Q1):Option Bool:=
 cond (Q3 .eql version 4)
 (cond (Q3 .gtr (wrap .i64 (((Q6 Qb.cells p.Props).length:Int)+((Q6 Qb.cells p.Will.Props).length:Int))) 0)
 (some false)
 (cond (Q3 .eql p.Kind 2)
 ((Q0q N p.Kind p.Code).bind fun v4=>
 (Q4q N p.Code).bind fun v6=>
 cond v6
 (cond (Q3 .eql p.Code 0)
 (some true)
 (some (!p.Session)))
 (some false))
 (cond (Q0p .eql p.Client [])
 (cond (!p.Clean)
 (some false)
 (cond p.HasPass
 (cond (!p.HasUser)
 (some false)
 (cond (Q3 .geq p.KeepAlive 0)
 (cond (Q3 .lss p.KeepAlive 65536)
 (cond (Q3 .geq p.Will.QoS 0)
 (some (Q3 .leq p.Will.QoS 2))
 (some false))
 (some false))
 (some false)))
 (cond (Q3 .geq p.KeepAlive 0)
 (cond (Q3 .lss p.KeepAlive 65536)
 (cond (Q3 .geq p.Will.QoS 0)
 (some (Q3 .leq p.Will.QoS 2))
 (some false))
 (some false))
 (some false))))
 (cond p.HasPass
 (cond (!p.HasUser)
 (some false)
 (cond (Q3 .geq p.KeepAlive 0)
 (cond (Q3 .lss p.KeepAlive 65536)
 (cond (Q3 .geq p.Will.QoS 0)
 (some (Q3 .leq p.Will.QoS 2))
 (some false))
 (some false))
 (some false)))
 (cond (Q3 .geq p.KeepAlive 0)
 (cond (Q3 .lss p.KeepAlive 65536)
 (cond (Q3 .geq p.Will.QoS 0)
 (some (Q3 .leq p.Will.QoS 2))
 (some false))
 (some false))
 (some false))))))
 (cond (Q3 .eql p.Kind 2)
 ((Q0q N p.Kind p.Code).bind fun v29=>
 cond v29
 (cond (Q3 .eql p.Code 0)
 (some true)
 (some (!p.Session)))
 (some false))
 (cond (Q3 .geq p.KeepAlive 0)
 (cond (Q3 .lss p.KeepAlive 65536)
 (cond (Q3 .geq p.Will.QoS 0)
 (some (Q3 .leq p.Will.QoS 2))
 (some false))
 (some false))
 (some false)))
theorem Qd8 {N} {version} {p} {r} (h:Q27 N version p=some r):pU 365 [.int .i64 version,.agg (Q1.cells p)] (.bool r):=by
 refine Q0 Zni ?_;unfold Q27 at h;rw [cX,cY] at h;refine ifO h (fun hc1 h=>?_) (fun hc1 h=>?_)
 ·refine iL h fun h=>?_;apply iU h<;>intro h
  ·refine cP h Q31 p2 fun v4 h=>?_;refine ifT hc1 ?_;refine cP h Qeg p1 fun v6 h=>?_;refine iR h fun h=>?_;exact iB h
  refine ifT hc1 ?_;apply iU h<;>intro h
  ·refine iL h fun h=>?_;apply iU h<;>intro h
   ·refine iL h fun h=>?_;refine iR h fun h=>?_;refine iR h fun h=>?_;exact iB h
   refine iR h fun h=>?_;refine iR h fun h=>?_;exact iB h
  apply iU h<;>intro h
  ·refine iL h fun h=>?_;refine iR h fun h=>?_;refine iR h fun h=>?_;exact iB h
  refine iR h fun h=>?_;refine iR h fun h=>?_;exact iB h
 apply iU h<;>intro h
 ·refine cP h Q31 p2 fun v29 h=>?_;refine ifF hc1 ?_;refine iR h fun h=>?_;exact iB h
 refine ifF hc1 ?_;refine iR h fun h=>?_;refine iR h fun h=>?_;exact iB h
def Gw (N:Nat) (n_0:Int) (size:Int):Nat→Int→(List Int)→Option (List UInt8)
 | 0,_,_=>none
 | n+1,s14,l15=>
  cond (Q3 .lss s14 (ifB (decide (16<size)) 16 size))
  (cond (Q3 .lss s14 8)
  (cond (decide (0≤(wrap .u64 (wrap .i64 (8 * s14))))) ((idx (l15:List Int) (wrap .i64 ((wrap .i64 ((ifB (decide (16<size)) 16 size) - 1)) - s14))).bind fun y19=>
  Gw N n_0 size n (wrap .i64 (s14+1)) ((l15:List Int).set (Int.toNat (wrap .i64 ((wrap .i64 ((ifB (decide (16<size)) 16 size) - 1)) - s14))) (wrap .u8 (Qcl .u64 n_0 (wrap .u64 (wrap .i64 (8 * s14))))))) none)
  (Gw N n_0 size n (wrap .i64 (s14+1)) l15))
  (some (l15.map fun n=>UInt8.ofNat n.toNat))
def X6 (N:Nat) (n_0:Int) (size:Int):Option (List UInt8):=
 cond (Q3 .leq size 0)
 (some [])
 (cond (decide (0≤(ifB (decide (16<size)) 16 size))&&decide ((ifB (decide (16<size)) 16 size)≤(ifB (decide (16<size)) 16 size))&&decide ((ifB (decide (16<size)) 16 size) * 1≤1099511627776)) (Gw N n_0 size N 0 (List.replicate ((ifB (decide (16<size)) 16 size):Int).toNat (0:Int))) none)
theorem Ys {N} {n_0} {size} {r} (h:X6 N n_0 size=some r):pU 136 [.int .u64 n_0,.int .i64 size] (.str r):=by
 refine Q0 Zkj ?_;unfold X6 at h;rw [cX] at h;refine iL h fun h=>?_;refine kU h fun h=>?_;refine Z3j (c:=(cI .u8)) (0:Int) rfl ?_;refine lpC (τ:=Int×(List Int)) (fun ⟨s14,l15⟩=>(iW n_0 :: .p (.int .i64 (ifB (decide (16<size)) 16 size))::a2 (.any :: .slice 1 1 0 l15.length::a4 (a2 (.any :: .p (.int .i64 (ifB (decide (16<size)) 16 size))::iI s14::a16 (a2 (.any :: []))))):List AV)) (fun ⟨_,l15⟩=>(.dead :: .cells (Q18 (cI .u8) l15) :: []:List AObj)) (fun n0 ⟨s14,l15⟩=>Gw N n_0 size n0 s14 l15) (0,(List.replicate ((ifB (decide (16<size)) 16 size):Int).toNat (0:Int))) h (rho [0,0]) Yn fun n0 ⟨s14,l15⟩ h=>?_
 first | rw [Gw] at h | simp only [Gw] at h
 rw [cX] at h;apply iU h<;>intro h
 ·apply iU h<;>intro h
  ·refine kU h fun h=>?_;obtain ⟨y19,hy20,h⟩:=Q36 h;refine Q37 (Q8i hy20 sd) ?_;refine Q37 (Q5b (c:=(cI .u8)) (e:=1) (fun _=>rfl) hy20 (off:=0) (by omega) rfl (by decide)) ?_
   refine Q4w (c:=(cI .u8)) (e:=1) (fun _=>rfl) hy20 (wrap .u8 (Qcl .u64 n_0 (wrap .u64 (wrap .i64 (8 * s14))))) (off:=0) (by first | omega | (simp only [Q6v,orI,Qnh,Q2e,Qb3,Qcl];omega)) rfl (by simp) ?_
   show Exists _;exact ⟨(n0,(wrap .i64 (s14+1)),((l15:List Int).set (Int.toNat (wrap .i64 ((wrap .i64 ((ifB (decide (16<size)) 16 size) - 1)) - s14))) (wrap .u8 (Qcl .u64 n_0 (wrap .u64 (wrap .i64 (8 * s14))))))),h,Lf _,(fun i=>i),Yn⟩
  show Exists _;exact ⟨(n0,(wrap .i64 (s14+1)),l15),h,Lf _,(fun i=>i),Yn⟩
 refine Qhv (l:=l15) (n:=l15.length) sd ?_;cases h;exact (.p _)
def G5 (N:Nat) (s_0:List UInt8):Option (List UInt8):=
 (X6 N (wrap .u64 (s_0.length:Int)) 2).bind fun v1=>
 cond (Nat.ble (v1.length+s_0.length) 4611686018427387904) (some (v1++s_0)) none
theorem Q74 {N} {s_0} {r} (h:G5 N s_0=some r):pU 377 [.str s_0] (.str r):=by
 refine Q0 Zcc ?_;unfold G5 at h;refine cP h Ys p2 fun v1 h=>?_;refine kU h fun h=>?_;cases h;exact (.p _)
def G6 (N:Nat) (s_0:List UInt8):Option ((List UInt8)×Int):=
 cond (Q3 .gtr (s_0.length:Int) 65535)
 (some ([],2))
 ((G5 N s_0).bind fun v2=>
 some (v2,0))
theorem Q3t {N} {s_0} {r} (h:G6 N s_0=some r):pU 338 [.str s_0] (.tuple [.str r.1,.int .i64 r.2]):=by
 refine Q0 Zmx ?_;unfold G6 at h;rw [cX] at h;refine iL2 h fun h=>?_;refine cP h Q74 p1 fun v2 h=>?_;obtain rfl:=Qm h;exact u2
def Q4g (_N:Nat) (n_0:Int):Option Bool:=
 cond (Q3 .geq n_0 0)
 (some (Q3 .leq n_0 268435455))
 (some false)
theorem Qba {N} {n_0} {r} (h:Q4g N n_0=some r):pU 217 [.int .i64 n_0] (.bool r):=by
 refine Q0 Zkh ?_;unfold Q4g at h;rw [cX] at h;exact iB h
def J3 (N:Nat):Nat→Int→(List Int)→Option ((List UInt8)×Int)
 | 0,_,_=>none
 | n+1,n9,l10=>
  cond (Q3 .geq n9 128)
  (cond (Nat.ble ((l10.length+1+4096) * 1) 17592186044416) (J3 N n (wrap .i64 ((n9:Int).tdiv 128)) (l10 ++ [(orI .u8 (wrap .u8 ((n9:Int).tmod 128)) 128)])) none)
  (cond (Nat.ble ((l10.length+1+4096) * 1) 17592186044416) (some (((l10 ++ [(wrap .u8 n9)]).map fun n=>UInt8.ofNat n.toNat),0)) none)
def Je (N:Nat) (n_0:Int):Option ((List UInt8)×Int):=
 (Q4g N n_0).bind fun v1=>
 cond (!v1)
 (some ([],2))
 (J3 N N n_0 [])
theorem Q35 {N} {n_0} {r} (h:Je N n_0=some r):pU 135 [.int .i64 n_0] (.tuple [.str r.1,.int .i64 r.2]):=by
 refine Q0 Zlr ?_;unfold Je at h;refine cP h Qba p1 fun v1 h=>?_;refine iL2 h fun h=>?_;refine lpA (τ:=Int×(List Int)) (fun ⟨n9,l10⟩=>(iI n9::a2 (.any :: .slice 1 0 0 l10.length::a16 (a4 ([]))):List AV)) (fun ⟨_,l10⟩=>(.cells (Q18 (cI .u8) l10) :: []:List AObj)) (fun n0 ⟨n9,l10⟩=>J3 N n0 n9 l10) (n_0,[]) h fun n0 ⟨n9,l10⟩ h=>?_
 first | rw [J3] at h | simp only [J3] at h
 rw [cX] at h;apply iU h<;>intro h
 ·obtain ⟨hk12,h⟩:=Q99 h;refine Q37 (Wy (c:=(cI .u8)) (e:=1) (fun _=>rfl) sd hk12) ?_;refine Q0f (c:=(cI .u8)) [(orI .u8 (wrap .u8 ((n9:Int).tmod 128)) 128)] rfl ?_;show Exists _;exact ⟨(n0,(wrap .i64 ((n9:Int).tdiv 128)),(l10 ++ [(orI .u8 (wrap .u8 ((n9:Int).tmod 128)) 128)])),h,Lf _,(rho [2]),Yn⟩
 obtain ⟨hk13,h⟩:=Q99 h;refine Q37 (Wy (c:=(cI .u8)) (e:=1) (fun _=>rfl) sd hk13) ?_;refine Q0f (c:=(cI .u8)) [(wrap .u8 n9)] rfl ?_;refine Qhv (l:=(l10 ++ [(wrap .u8 n9)])) (n:=(l10.length+1)) sd ?_;obtain rfl:=Qm h;exact u2
def Q0x (N:Nat) (shape:Int) (p:Qb):Option (List UInt8):=
 cond (Q3 .eql shape 1)
 ((X6 N (wrap .u64 p.N') shape).bind fun v2=>
 some v2)
 (cond (Q3 .eql shape 2)
 ((X6 N (wrap .u64 p.N') shape).bind fun v5=>
 some v5)
 (cond (Q3 .eql shape 3)
 ((X6 N (wrap .u64 p.N') 4).bind fun v8=>
 some v8)
 (cond (Q3 .eql shape 4)
 ((Je N (wrap .i64 p.N')).bind fun v11=>
 some v11.1)
 ((G6 N p.Text).bind fun v13=>
 cond (Q3 .neq shape 7)
 (some v13.1)
 ((G6 N p.Value).bind fun v16=>
 cond (Nat.ble (v13.1.length+v16.1.length) 4611686018427387904) (some (v13.1++v16.1)) none)))))
theorem Q4z {N} {shape} {p} {r} (h:Q0x N shape p=some r):pU 256 [.int .i64 shape,.agg (Qb.cells p)] (.str r):=by
 refine Q0 Zg8 ?_;unfold Q0x at h;rw [cX] at h;refine ifO h (fun hc1 h=>?_) (fun hc1 h=>?_)
 ·refine ifT hc1 ?_;refine cP h Ys p2 fun v2 h=>?_;cases h;exact (.p _)
 apply iU h<;>intro h
 ·refine cP h Ys p2 fun v5 h=>?_;cases h;exact (.p _)
 apply iU h<;>intro h
 ·refine cP h Ys p2 fun v8 h=>?_;cases h;exact (.p _)
 apply iU h<;>intro h
 ·refine cP h Q35 p1 fun v11 h=>?_;cases h;exact (.p _)
 refine cP h Q3t p1 fun v13 h=>?_;refine iL h fun h=>?_;refine cP h Q3t p1 fun v16 h=>?_;refine kU h fun h=>?_;cases h;exact (.p _)
def F_prop_rules_tab:List (Int×Qv) := [(1,(⟨1,65544,0,1⟩:Qv)),(2,(⟨3,65544,0,4294967295⟩:Qv)),(3,(⟨5,65544,0,0⟩:Qv)),(8,(⟨5,65544,0,0⟩:Qv)),(9,(⟨6,65544,0,0⟩:Qv)),(11,(⟨4,264,1,268435455⟩:Qv)),(17,(⟨3,16390,0,4294967295⟩:Qv)),(18,(⟨5,4,0,0⟩:Qv)),(19,(⟨2,4,0,65535⟩:Qv)),(21,(⟨5,32774,0,0⟩:Qv)),(22,(⟨6,32774,0,0⟩:Qv)),(23,(⟨1,2,0,1⟩:Qv)),(24,(⟨3,65536,0,4294967295⟩:Qv)),(25,(⟨1,2,0,1⟩:Qv)),(26,(⟨5,4,0,0⟩:Qv)),(28,(⟨5,16388,0,0⟩:Qv)),(31,(⟨5,51956,0,0⟩:Qv)),(33,(⟨2,6,1,65535⟩:Qv)),(34,(⟨2,6,0,65535⟩:Qv)),(35,(⟨2,8,1,65535⟩:Qv)),(36,(⟨1,4,0,1⟩:Qv)),(37,(⟨1,4,0,1⟩:Qv)),(38,(⟨7,118782,0,0⟩:Qv)),(39,(⟨3,6,1,4294967295⟩:Qv)),(40,(⟨1,4,0,1⟩:Qv)),(41,(⟨1,4,0,1⟩:Qv)),(42,(⟨1,4,0,1⟩:Qv))]
theorem Qi9:pU 253 [] (.pmap (Z5c (fun v => .agg (Qv.cells v)) F_prop_rules_tab)):=Uq Qaq (N:=2000) (d:=60) (by kernel_rfl)
def Q2h (_N:Nat) (r_0:Qv) (p:Qb):Option Int:=
 cond (Q0p .neq p.Text [])
 (some 2)
 (cond (Q0p .neq p.Value [])
 (some 2)
 (cond (Q3 .lss p.N' r_0.least)
 (some 9)
 (cond (Q3 .gtr p.N' r_0.most)
 (some 9)
 (some 0))))
theorem Qbl {N} {r_0} {p} {r} (h:Q2h N r_0 p=some r):pU 336 [.agg (Qv.cells r_0),.agg (Qb.cells p)] (.int .i64 r):=by
 refine Q0 Zfy ?_;unfold Q2h at h;rw [cX,cY] at h;refine iL h fun h=>?_;refine iL h fun h=>?_;refine iL h fun h=>?_;exact iB h
def Gz (_N:Nat) (r_0:Qv) (kind:Int):Option Bool:=
 cond (Q3 .geq kind 1)
 (cond (Q3 .leq kind 16)
 (cond (decide (0≤(wrap .u64 kind))) (some (Q3 .eql (Q6v .i64 (Qcl .i64 r_0.kinds (wrap .u64 kind)) 1) 1)) none)
 (some false))
 (some false)
theorem Qei {N} {r_0} {kind} {r} (h:Gz N r_0 kind=some r):pU 335 [.agg (Qv.cells r_0),.int .i64 kind] (.bool r):=by
 refine Q0 Za5 ?_;unfold Gz at h;rw [cX] at h;refine iR h fun h=>?_;refine iR h fun h=>?_;refine kU h fun h=>?_;cases h;exact (.p _)
def Q1q (N:Nat) (r_0:Qv) (kind:Int) (p:Qb):Option Int:=
 (Gz N r_0 kind).bind fun v1=>
 cond (!v1)
 (some 9)
 (cond (Q3 .leq r_0.shape 4)
 ((Q2h N r_0 p).bind fun v5=>
 some v5)
 (cond (Q3 .neq p.N' 0)
 (some 2)
 (cond (Q0p .neq p.Value [])
 (cond (Q3 .neq r_0.shape 7)
 (some 2)
 (cond (Q3 .eql r_0.shape 6)
 (cond (Q3 .gtr (p.Text.length:Int) 65535)
 (some 2)
 (some 0))
 ((X1 N p.Text).bind fun v12=>
 cond (!v12)
 (some 6)
 ((X1 N p.Value).bind fun v15=>
 cond (!v15)
 (some 6)
 (cond (Q3 .eql p.ID 8)
 ((Jl N p.Text).bind fun v19=>
 cond (!v19)
 (some 9)
 (some 0))
 (some 0))))))
 (cond (Q3 .eql r_0.shape 6)
 (cond (Q3 .gtr (p.Text.length:Int) 65535)
 (some 2)
 (some 0))
 ((X1 N p.Text).bind fun v24=>
 cond (!v24)
 (some 6)
 ((X1 N p.Value).bind fun v27=>
 cond (!v27)
 (some 6)
 (cond (Q3 .eql p.ID 8)
 ((Jl N p.Text).bind fun v31=>
 cond (!v31)
 (some 9)
 (some 0))
 (some 0))))))))
theorem Qbf {N} {r_0} {kind} {p} {r} (h:Q1q N r_0 kind p=some r):pU 254 [.agg (Qv.cells r_0),.int .i64 kind,.agg (Qb.cells p)] (.int .i64 r):=by
 refine Q0 Zej ?_;unfold Q1q at h;rw [cX,cY] at h;refine cP h Qei (.cons q4 p1) fun v1 h=>?_;refine iL h fun h=>?_;apply iU h<;>intro h
 ·refine cP h Qbl (.cons q4 (.cons q4 .nil)) fun v5 h=>?_;cases h;exact (.p _)
 refine iL h fun h=>?_;apply iU h<;>intro h
 ·refine iL h fun h=>?_;apply iU h<;>intro h
  ·exact iB h
  refine cP h Xm p1 fun v12 h=>?_;refine iL h fun h=>?_;refine cP h Xm p1 fun v15 h=>?_;refine iL h fun h=>?_;refine iR h fun h=>?_;refine cP h Q05 p1 fun v19 h=>?_;exact iB h
 apply iU h<;>intro h
 ·exact iB h
 refine cP h Xm p1 fun v24 h=>?_;refine iL h fun h=>?_;refine cP h Xm p1 fun v27 h=>?_;refine iL h fun h=>?_;refine iR h fun h=>?_;refine cP h Q05 p1 fun v31 h=>?_;exact iB h
def Q87 (_N:Nat) (kind:Int) (id:Int):Option Bool:=
 cond (Q3 .eql id 38)
 (some true)
 (cond (Q3 .eql id 11)
 (some (Q3 .eql kind 3))
 (some false))
theorem Qbb {N} {kind} {id} {r} (h:Q87 N kind id=some r):pU 337 [.int .i64 kind,.int .i64 id] (.bool r):=by
 refine Q0 Zfe ?_;unfold Q87 at h;rw [cX] at h;refine iL h fun h=>?_;exact iB h
def Zz (N:Nat) (kind:Int) (l:List Qb):Nat→Int→(List Int)→(List Int)→Option ((List UInt8)×Int)
 | 0,_,_,_=>none
 | n+1,s107,l108,l109=>
  cond (Q3 .lss s107 ((Q6 Qb.cells l).length:Int))
  ((idx l s107).bind fun y111=>
  optC (Q55 F_prop_rules_tab y111.ID) (fun m113=>
  (Q1q N m113 kind y111).bind fun v115=>
  cond (Q3 .neq v115 0)
  (some ([],v115))
  (cond (decide (0≤y111.ID)&&decide (y111.ID<((64:Nat):Int))) ((idx (l108:List Int) y111.ID).bind fun y118=>
  (idx (l108:List Int) y111.ID).bind fun y121=>
  (idx (((l108:List Int).set (Int.toNat y111.ID) (wrap .i64 (y118+1))):List Int) y111.ID).bind fun y123=>
  cond (Q3 .gtr y123 1)
  ((Q87 N kind y111.ID).bind fun v126=>
  cond (!v126)
  (some ([],9))
  (cond (Nat.ble ((l109.length+1+4096) * 1) 17592186044416) ((Q0x N m113.shape y111).bind fun v130=>
  cond (Nat.beq v130.length 0)
  (Zz N kind l n (wrap .i64 (s107+1)) ((l108:List Int).set (Int.toNat y111.ID) (wrap .i64 (y118+1))) (l109 ++ [(wrap .u8 y111.ID)]))
  (cond (Nat.ble (((l109.length+1)+v130.length+4096) * 1) 17592186044416) (Zz N kind l n (wrap .i64 (s107+1)) ((l108:List Int).set (Int.toNat y111.ID) (wrap .i64 (y118+1))) ((l109 ++ [(wrap .u8 y111.ID)])++(v130.map fun b=>(b.toNat:Int)))) none)) none))
  (cond (Nat.ble ((l109.length+1+4096) * 1) 17592186044416) ((Q0x N m113.shape y111).bind fun v135=>
  cond (Nat.beq v135.length 0)
  (Zz N kind l n (wrap .i64 (s107+1)) ((l108:List Int).set (Int.toNat y111.ID) (wrap .i64 (y118+1))) (l109 ++ [(wrap .u8 y111.ID)]))
  (cond (Nat.ble (((l109.length+1)+v135.length+4096) * 1) 17592186044416) (Zz N kind l n (wrap .i64 (s107+1)) ((l108:List Int).set (Int.toNat y111.ID) (wrap .i64 (y118+1))) ((l109 ++ [(wrap .u8 y111.ID)])++(v135.map fun b=>(b.toNat:Int)))) none)) none)) none))
  ((Q1q N (⟨0,0,0,0⟩:Qv) kind y111).bind fun v139=>
  cond (Q3 .neq v139 0)
  (some ([],v139))
  (cond (decide (0≤y111.ID)&&decide (y111.ID<((64:Nat):Int))) ((idx (l108:List Int) y111.ID).bind fun y142=>
  (idx (l108:List Int) y111.ID).bind fun y145=>
  (idx (((l108:List Int).set (Int.toNat y111.ID) (wrap .i64 (y142+1))):List Int) y111.ID).bind fun y147=>
  cond (Q3 .gtr y147 1)
  ((Q87 N kind y111.ID).bind fun v150=>
  cond (!v150)
  (some ([],9))
  (cond (Nat.ble ((l109.length+1+4096) * 1) 17592186044416) ((Q0x N 0 y111).bind fun v154=>
  cond (Nat.beq v154.length 0)
  (Zz N kind l n (wrap .i64 (s107+1)) ((l108:List Int).set (Int.toNat y111.ID) (wrap .i64 (y142+1))) (l109 ++ [(wrap .u8 y111.ID)]))
  (cond (Nat.ble (((l109.length+1)+v154.length+4096) * 1) 17592186044416) (Zz N kind l n (wrap .i64 (s107+1)) ((l108:List Int).set (Int.toNat y111.ID) (wrap .i64 (y142+1))) ((l109 ++ [(wrap .u8 y111.ID)])++(v154.map fun b=>(b.toNat:Int)))) none)) none))
  (cond (Nat.ble ((l109.length+1+4096) * 1) 17592186044416) ((Q0x N 0 y111).bind fun v159=>
  cond (Nat.beq v159.length 0)
  (Zz N kind l n (wrap .i64 (s107+1)) ((l108:List Int).set (Int.toNat y111.ID) (wrap .i64 (y142+1))) (l109 ++ [(wrap .u8 y111.ID)]))
  (cond (Nat.ble (((l109.length+1)+v159.length+4096) * 1) 17592186044416) (Zz N kind l n (wrap .i64 (s107+1)) ((l108:List Int).set (Int.toNat y111.ID) (wrap .i64 (y142+1))) ((l109 ++ [(wrap .u8 y111.ID)])++(v159.map fun b=>(b.toNat:Int)))) none)) none)) none)))
  ((idx (l108:List Int) 22).bind fun y163=>
  cond (Q3 .gtr y163 0)
  ((idx (l108:List Int) 21).bind fun y166=>
  cond (Q3 .eql y166 0)
  (some ([],9))
  ((Je N (l109.length:Int)).bind fun v169=>
  cond (Q3 .neq v169.2 0)
  (some ([],4))
  (cond (Nat.ble (v169.1.length+(l109.map fun n=>UInt8.ofNat n.toNat).length) 4611686018427387904) (some ((v169.1++(l109.map fun n=>UInt8.ofNat n.toNat)),0)) none)))
  ((Je N (l109.length:Int)).bind fun v173=>
  cond (Q3 .neq v173.2 0)
  (some ([],4))
  (cond (Nat.ble (v173.1.length+(l109.map fun n=>UInt8.ofNat n.toNat).length) 4611686018427387904) (some ((v173.1++(l109.map fun n=>UInt8.ofNat n.toNat)),0)) none)))
def Va (N:Nat) (kind:Int) (l:List Qb):Option ((List UInt8)×Int):=
 cond (Q3 .gtr ((Q6 Qb.cells l).length:Int) 1000)
 (some ([],4))
 (Zz N kind l N 0 [0,0,0,0,0,0,0,0,0,0,0,0,0,0,0,0,0,0,0,0,0,0,0,0,0,0,0,0,0,0,0,0,0,0,0,0,0,0,0,0,0,0,0,0,0,0,0,0,0,0,0,0,0,0,0,0,0,0,0,0,0,0,0,0] [])
theorem Jn {N} {kind} {l} {r} (h:Va N kind l=some r):pU 186 [.int .i64 kind,.slice 4 (Q6 Qb.cells l)] (.tuple [.str r.1,.int .i64 r.2]):=by
 refine Q0 Zjc ?_;unfold Va at h;rw [cX] at h;refine iL2 h fun h=>?_;refine Q64 Qi9 .nil ?_;refine lpA (τ:=Int×(List Int)×(List Int)) (fun ⟨s107,_,l109⟩=>(iI kind::a4 (.any :: .p (.pmap (Z5c (fun v => .agg (Qv.cells v)) F_prop_rules_tab)) :: .ptr 0 0 :: .slice 1 1 0 l109.length::a8 (a2 (.p (.slice 4 (Q6 Qb.cells l))::iI ((Q6 Qb.cells l).length:Int)::iI s107::a16 (a16 (a8 (a2 (.any :: []))))))):List AV)) (fun ⟨_,l108,l109⟩=>(.cells (Q18 (cI .i64) l108) :: .cells (Q18 (cI .u8) l109) :: []:List AObj)) (fun n0 ⟨s107,l108,l109⟩=>Zz N kind l n0 s107 l108 l109) (0,[0,0,0,0,0,0,0,0,0,0,0,0,0,0,0,0,0,0,0,0,0,0,0,0,0,0,0,0,0,0,0,0,0,0,0,0,0,0,0,0,0,0,0,0,0,0,0,0,0,0,0,0,0,0,0,0,0,0,0,0,0,0,0,0],[]) h fun n0 ⟨s107,l108,l109⟩ h=>?_
 first | rw [Zz] at h | simp only [Zz] at h
 rw [cX] at h;apply iU h<;>intro h
 ·refine xR h fun y111 h=>?_;refine Z0q h (fun m113 hm114 h=>?_) (fun hm114 h=>?_)
  ·refine cP h Qbf (.cons q4 (.cons (.p _) (.cons q4 .nil))) fun v115 h=>?_;refine iL2 h fun h=>?_;refine Zy Z7i ?_;refine Qk ?_;obtain ⟨hk120,h⟩:=Q99 h;refine Q37 hk120 ?_;obtain ⟨y118,hy119,h⟩:=Q36 h
   refine Qag (c:=(cI .i64)) (e:=1) (fun _=>rfl) hy119 (off:=0) (by decide) (by first | omega | (simp only [Q6v,orI,Qnh,Q2e,Qb3,Qcl];omega)) ?_
   refine Q37 hk120 ?_;obtain ⟨y121,hy122,h⟩:=Q36 h;refine Q37 (Q5b (c:=(cI .i64)) (e:=1) (fun _=>rfl) hy122 (off:=0) (by omega) rfl (by decide)) ?_
   refine Q4w (c:=(cI .i64)) (e:=1) (fun _=>rfl) hy122 (wrap .i64 (y118+1)) (off:=0) (by first | omega | (simp only [Q6v,orI,Qnh,Q2e,Qb3,Qcl];omega)) rfl (by simp) ?_
   refine Q37 hk120 ?_;obtain ⟨y123,hy124,h⟩:=Q36 h
   refine Qag (c:=(cI .i64)) (e:=1) (fun _=>rfl) hy124 (off:=0) (by decide) (by first | omega | (simp only [Q6v,orI,Qnh,Q2e,Qb3,Qcl];omega)) ?_
   apply iU h<;>intro h
   ·refine cP h Qbb p2 fun v126 h=>?_;refine iL2 h fun h=>?_;refine Qk ?_;obtain ⟨hk129,h⟩:=Q99 h;refine Q37 (Wy (c:=(cI .u8)) (e:=1) (fun _=>rfl) sd hk129) ?_;refine Q0f (c:=(cI .u8)) [(wrap .u8 y111.ID)] rfl ?_;refine cD h Q4z (.cons (.p _) (.cons q4 .nil)) fun v130 h=>?_;refine Qj7 (b:=v130) ?_;apply iU h<;>intro h
    ·show Exists _;exact ⟨(n0,(wrap .i64 (s107+1)),((l108:List Int).set (Int.toNat y111.ID) (wrap .i64 (y118+1))),(l109 ++ [(wrap .u8 y111.ID)])),h,Lf _,(rho [0,5]),Yn⟩
    obtain ⟨hk133,h⟩:=Q99 h;refine Q37 (Wy (c:=(cI .u8)) (e:=1) (l:=(l109 ++ [(wrap .u8 y111.ID)])) (fun _=>rfl) sd hk133) ?_;refine Q0f (c:=(cI .u8)) (l:=(l109 ++ [(wrap .u8 y111.ID)])) (v130.map fun b=>(b.toNat:Int)) rfl ?_;show Exists _;exact ⟨(n0,(wrap .i64 (s107+1)),((l108:List Int).set (Int.toNat y111.ID) (wrap .i64 (y118+1))),((l109 ++ [(wrap .u8 y111.ID)])++(v130.map fun b=>(b.toNat:Int)))),h,Lf _,(rho [0,6]),Yn⟩
   refine Qk ?_;obtain ⟨hk134,h⟩:=Q99 h;refine Q37 (Wy (c:=(cI .u8)) (e:=1) (fun _=>rfl) sd hk134) ?_;refine Q0f (c:=(cI .u8)) [(wrap .u8 y111.ID)] rfl ?_;refine cD h Q4z (.cons (.p _) (.cons q4 .nil)) fun v135 h=>?_;refine Qj7 (b:=v135) ?_;apply iU h<;>intro h
   ·show Exists _;exact ⟨(n0,(wrap .i64 (s107+1)),((l108:List Int).set (Int.toNat y111.ID) (wrap .i64 (y118+1))),(l109 ++ [(wrap .u8 y111.ID)])),h,Lf _,(rho [0,5]),Yn⟩
   obtain ⟨hk138,h⟩:=Q99 h;refine Q37 (Wy (c:=(cI .u8)) (e:=1) (l:=(l109 ++ [(wrap .u8 y111.ID)])) (fun _=>rfl) sd hk138) ?_;refine Q0f (c:=(cI .u8)) (l:=(l109 ++ [(wrap .u8 y111.ID)])) (v135.map fun b=>(b.toNat:Int)) rfl ?_;show Exists _;exact ⟨(n0,(wrap .i64 (s107+1)),((l108:List Int).set (Int.toNat y111.ID) (wrap .i64 (y118+1))),((l109 ++ [(wrap .u8 y111.ID)])++(v135.map fun b=>(b.toNat:Int)))),h,Lf _,(rho [0,6]),Yn⟩
  refine cP h Qbf (.cons q4 (.cons (.p _) (.cons q4 .nil))) fun v139 h=>?_;refine iL2 h fun h=>?_;refine Zy Z7i ?_;refine Qk ?_;obtain ⟨hk144,h⟩:=Q99 h;refine Q37 hk144 ?_;obtain ⟨y142,hy143,h⟩:=Q36 h
  refine Qag (c:=(cI .i64)) (e:=1) (fun _=>rfl) hy143 (off:=0) (by decide) (by first | omega | (simp only [Q6v,orI,Qnh,Q2e,Qb3,Qcl];omega)) ?_
  refine Q37 hk144 ?_;obtain ⟨y145,hy146,h⟩:=Q36 h;refine Q37 (Q5b (c:=(cI .i64)) (e:=1) (fun _=>rfl) hy146 (off:=0) (by omega) rfl (by decide)) ?_
  refine Q4w (c:=(cI .i64)) (e:=1) (fun _=>rfl) hy146 (wrap .i64 (y142+1)) (off:=0) (by first | omega | (simp only [Q6v,orI,Qnh,Q2e,Qb3,Qcl];omega)) rfl (by simp) ?_
  refine Q37 hk144 ?_;obtain ⟨y147,hy148,h⟩:=Q36 h
  refine Qag (c:=(cI .i64)) (e:=1) (fun _=>rfl) hy148 (off:=0) (by decide) (by first | omega | (simp only [Q6v,orI,Qnh,Q2e,Qb3,Qcl];omega)) ?_
  apply iU h<;>intro h
  ·refine cP h Qbb p2 fun v150 h=>?_;refine iL2 h fun h=>?_;refine Qk ?_;obtain ⟨hk153,h⟩:=Q99 h;refine Q37 (Wy (c:=(cI .u8)) (e:=1) (fun _=>rfl) sd hk153) ?_;refine Q0f (c:=(cI .u8)) [(wrap .u8 y111.ID)] rfl ?_;refine cD h Q4z (.cons (.p _) (.cons q4 .nil)) fun v154 h=>?_;refine Qj7 (b:=v154) ?_;apply iU h<;>intro h
   ·show Exists _;exact ⟨(n0,(wrap .i64 (s107+1)),((l108:List Int).set (Int.toNat y111.ID) (wrap .i64 (y142+1))),(l109 ++ [(wrap .u8 y111.ID)])),h,Lf _,(rho [0,5]),Yn⟩
   obtain ⟨hk157,h⟩:=Q99 h;refine Q37 (Wy (c:=(cI .u8)) (e:=1) (l:=(l109 ++ [(wrap .u8 y111.ID)])) (fun _=>rfl) sd hk157) ?_;refine Q0f (c:=(cI .u8)) (l:=(l109 ++ [(wrap .u8 y111.ID)])) (v154.map fun b=>(b.toNat:Int)) rfl ?_;show Exists _;exact ⟨(n0,(wrap .i64 (s107+1)),((l108:List Int).set (Int.toNat y111.ID) (wrap .i64 (y142+1))),((l109 ++ [(wrap .u8 y111.ID)])++(v154.map fun b=>(b.toNat:Int)))),h,Lf _,(rho [0,6]),Yn⟩
  refine Qk ?_;obtain ⟨hk158,h⟩:=Q99 h;refine Q37 (Wy (c:=(cI .u8)) (e:=1) (fun _=>rfl) sd hk158) ?_;refine Q0f (c:=(cI .u8)) [(wrap .u8 y111.ID)] rfl ?_;refine cD h Q4z (.cons (.p _) (.cons q4 .nil)) fun v159 h=>?_;refine Qj7 (b:=v159) ?_;apply iU h<;>intro h
  ·show Exists _;exact ⟨(n0,(wrap .i64 (s107+1)),((l108:List Int).set (Int.toNat y111.ID) (wrap .i64 (y142+1))),(l109 ++ [(wrap .u8 y111.ID)])),h,Lf _,(rho [0,5]),Yn⟩
  obtain ⟨hk162,h⟩:=Q99 h;refine Q37 (Wy (c:=(cI .u8)) (e:=1) (l:=(l109 ++ [(wrap .u8 y111.ID)])) (fun _=>rfl) sd hk162) ?_;refine Q0f (c:=(cI .u8)) (l:=(l109 ++ [(wrap .u8 y111.ID)])) (v159.map fun b=>(b.toNat:Int)) rfl ?_;show Exists _;exact ⟨(n0,(wrap .i64 (s107+1)),((l108:List Int).set (Int.toNat y111.ID) (wrap .i64 (y142+1))),((l109 ++ [(wrap .u8 y111.ID)])++(v159.map fun b=>(b.toNat:Int)))),h,Lf _,(rho [0,6]),Yn⟩
 refine Zy Zoz ?_;obtain ⟨y163,hy164,h⟩:=Q36 h;refine Qag (c:=(cI .i64)) (e:=1) (n:=1) (j:=22) (fun _=>rfl) hy164 (off:=0) (by decide) rfl ?_;apply iU h<;>intro h
 ·obtain ⟨y166,hy167,h⟩:=Q36 h;refine Qag (c:=(cI .i64)) (e:=1) (n:=1) (j:=21) (fun _=>rfl) hy167 (off:=0) (by decide) rfl ?_;refine iL2 h fun h=>?_;refine cP h Q35 p1 fun v169 h=>?_;refine iL2 h fun h=>?_;refine Qhv (l:=l109) (n:=l109.length) sd ?_;refine kU h fun h=>?_;obtain rfl:=Qm h;exact u2
 refine cP h Q35 p1 fun v173 h=>?_;refine iL2 h fun h=>?_;refine Qhv (l:=l109) (n:=l109.length) sd ?_;refine kU h fun h=>?_;obtain rfl:=Qm h;exact u2
def X8 (N:Nat) (kind:Int) (l:List Qb):Option Int:=
 (Va N kind l).bind fun v1=>
 some v1.2
theorem Xy {N} {kind} {l} {r} (h:X8 N kind l=some r):pU 111 [.int .i64 kind,.slice 4 (Q6 Qb.cells l)] (.int .i64 r):=by
 refine Q0 Zgk ?_;unfold X8 at h;refine cP h Jn p2 fun v1 h=>?_;cases h;exact (.p _)
def Q2r (N:Nat) (version:Int) (p:Q1):Option Int:=
 (Q7d N version).bind fun v1=>
 cond (!v1)
 (some 2)
 ((Q61 N p.Kind).bind fun v4=>
 cond (!v4)
 (some 2)
 ((Q2y N p).bind fun v7=>
 cond (!v7)
 (some 2)
 ((Q27 N version p).bind fun v10=>
 cond (!v10)
 (some 2)
 ((X1 N p.Client).bind fun v13=>
 cond (!v13)
 (some 6)
 ((X1 N p.User).bind fun v16=>
 cond (!v16)
 (some 6)
 (cond p.HasWill
 ((Jl N p.Will.Topic).bind fun v20=>
 cond (!v20)
 (some 10)
 (cond (Q3 .gtr (p.Will.Payload.length:Int) 65535)
 (some 2)
 (cond (Q3 .gtr (p.Pass.length:Int) 65535)
 (some 2)
 ((X8 N p.Kind p.Props).bind fun v25=>
 cond (Q3 .neq v25 0)
 (some v25)
 ((X8 N 16 p.Will.Props).bind fun v28=>
 some v28)))))
 (cond (Q3 .gtr (p.Will.Payload.length:Int) 65535)
 (some 2)
 (cond (Q3 .gtr (p.Pass.length:Int) 65535)
 (some 2)
 ((X8 N p.Kind p.Props).bind fun v32=>
 cond (Q3 .neq v32 0)
 (some v32)
 ((X8 N 16 p.Will.Props).bind fun v35=>
 some v35))))))))))
theorem Qej {N} {version} {p} {r} (h:Q2r N version p=some r):pU 290 [.int .i64 version,.agg (Q1.cells p)] (.int .i64 r):=by
 refine Q0 Zjs ?_;unfold Q2r at h;rw [cX] at h;refine cP h Qdy p1 fun v1 h=>?_;refine iL h fun h=>?_;refine cP h Qge p1 fun v4 h=>?_;refine iL h fun h=>?_;refine cP h Qfb (.cons (Ap (Qo (f2_ (f1_ (.cons (.p _) p5))))) .nil) fun v7 h=>?_;refine iL h fun h=>?_;refine cP h Qd8 (.cons (.p _) (.cons (Ap (Qo (f2_ (f1_ (.cons (.p _) p5))))) .nil)) fun v10 h=>?_;refine iL h fun h=>?_;refine cP h Xm p1 fun v13 h=>?_;refine iL h fun h=>?_;refine cP h Xm p1 fun v16 h=>?_;refine iL h fun h=>?_;apply iU h<;>intro h
 ·refine cP h Q05 p1 fun v20 h=>?_;refine iL h fun h=>?_;refine iL h fun h=>?_;refine iL h fun h=>?_;refine cP h Xy p2 fun v25 h=>?_;refine iL h fun h=>?_;refine cP h Xy p2 fun v28 h=>?_;cases h;exact (.p _)
 refine iL h fun h=>?_;refine iL h fun h=>?_;refine cP h Xy p2 fun v32 h=>?_;refine iL h fun h=>?_;refine cP h Xy p2 fun v35 h=>?_;cases h;exact (.p _)
def Q2c (N:Nat) (version:Int) (kind:Int) (l:List Qb):Option (List UInt8):=
 cond (Q3 .eql version 4)
 (some [])
 ((Va N kind l).bind fun v2=>
 some v2.1)
theorem Q8x {N} {version} {kind} {l} {r} (h:Q2c N version kind l=some r):pU 291 [.int .i64 version,.int .i64 kind,.slice 4 (Q6 Qb.cells l)] (.str r):=by
 refine Q0 Zee ?_;unfold Q2c at h;rw [cX] at h;refine iL h fun h=>?_;refine cP h Jn p2 fun v2 h=>?_;cases h;exact (.p _)
def Wc (N:Nat) (parts:List (List UInt8)):Option (List UInt8):=
 (Q8g N parts []).bind fun v1=>
 some v1
theorem Ws {N} {parts} {r} (h:Wc N parts=some r):pU 292 [.slice 1 (Q6 cS parts)] (.str r):=by
 refine Q0 Zb6 ?_;unfold Wc at h;refine cP h Qft p2 fun v1 h=>?_;cases h;exact (.p _)
def Qj (N:Nat) (p:Q1):Nat→Int→Int→Option Int
 | 0,_,_=>none
 | n+1,out9,s10=>
  cond (Q3 .lss s10 5)
  ((idx ([(⟨p.Clean,2⟩:Q6q),(⟨p.HasWill,4⟩:Q6q),(⟨p.Will.Retain,32⟩:Q6q),(⟨p.HasPass,64⟩:Q6q),(⟨p.HasUser,128⟩:Q6q)]:List Q6q) s10).bind fun y12=>
  cond y12.is
  (Qj N p n (orI .i64 out9 y12.bit) (wrap .i64 (s10+1)))
  (Qj N p n out9 (wrap .i64 (s10+1))))
  (some out9)
def Q2t (N:Nat) (p:Q1):Option Int:=
 cond (Q3 .neq p.Kind 1)
 (some 0)
 (Qj N p N (Qb3 .i64 (Q6v .i64 p.Will.QoS 3) 3) 0)
theorem Qdu {N} {p} {r} (h:Q2t N p=some r):pU 293 [.agg (Q1.cells p)] (.int .i64 r):=by
 refine Q0 Zku ?_;unfold Q2t at h;rw [cX] at h;refine iL h fun h=>?_;refine lpH (τ:=Int×Int) (fun ⟨out9,s10⟩=>(a2 (.any::iI out9::a16 (a8 (a2 (.slice 2 1 0 5::iI 5::iI s10::a8 (a2 (.any :: [])))))):List AV)) (fun n0 ⟨out9,s10⟩=>Qj N p n0 out9 s10) ((Qb3 .i64 (Q6v .i64 p.Will.QoS 3) 3),0) h fun n0 ⟨out9,s10⟩ h=>?_
 first | rw [Qj] at h | simp only [Qj] at h
 rw [cX] at h;refine iR h fun h=>?_;obtain ⟨y12,hy13,h⟩:=Q36 h;refine Q37 (Q8i hy13 sd) ?_
 refine Qag (c:=Q6q.cells) (e:=2) (fun _=>rfl) hy13 (off:=0) (by decide) (by first | omega | (simp only [Q6v,orI,Qnh,Q2e,Qb3,Qcl];omega)) ?_
 apply iU h<;>intro h
 ·show Exists _;exact ⟨(n0,(orI .i64 out9 y12.bit),(wrap .i64 (s10+1))),h,Lf _,(fun i=>i),Yn⟩
 show Exists _;exact ⟨(n0,out9,(wrap .i64 (s10+1))),h,Lf _,(fun i=>i),Yn⟩
def W0 (N:Nat) (s_0:List UInt8):Option (List UInt8):=
 (G6 N s_0).bind fun v1=>
 some v1.1
theorem Wv {N} {s_0} {r} (h:W0 N s_0=some r):pU 294 [.str s_0] (.str r):=by
 refine Q0 Zdo ?_;unfold W0 at h;refine cP h Q3t p1 fun v1 h=>?_;cases h;exact (.p _)
def Q2a (N:Nat) (version:Int) (p:Q1):Option ((List UInt8)×Int):=
 (Q2r N version p).bind fun v1=>
 cond (Q3 .neq v1 0)
 (some ([],v1))
 ((Q2c N version p.Kind p.Props).bind fun v4=>
 cond (Q3 .eql p.Kind 2)
 (cond p.Session
 ((X6 N (wrap .u64 p.Code) 1).bind fun v8=>
 (Wc N [[1],v8,v4]).bind fun v10=>
 some (v10,0))
 ((X6 N (wrap .u64 p.Code) 1).bind fun v12=>
 (Wc N [[0],v12,v4]).bind fun v14=>
 some (v14,0)))
 ((X6 N (wrap .u64 version) 1).bind fun v16=>
 (Q2t N p).bind fun v18=>
 (X6 N (wrap .u64 v18) 1).bind fun v20=>
 (X6 N (wrap .u64 p.KeepAlive) 2).bind fun v22=>
 (W0 N p.Client).bind fun v24=>
 (Wc N [[0,4,77,81,84,84],v16,v20,v22,v4,v24]).bind fun v26=>
 cond p.HasWill
 ((Q2c N version 16 p.Will.Props).bind fun v29=>
 (W0 N p.Will.Topic).bind fun v31=>
 (W0 N p.Will.Payload).bind fun v33=>
 (Wc N [v26,v29,v31,v33]).bind fun v35=>
 cond p.HasUser
 ((W0 N p.User).bind fun v38=>
 (Wc N [v35,v38]).bind fun v40=>
 cond p.HasPass
 ((W0 N p.Pass).bind fun v43=>
 (Wc N [v40,v43]).bind fun v45=>
 some (v45,0))
 (some (v40,0)))
 (cond p.HasPass
 ((W0 N p.Pass).bind fun v48=>
 (Wc N [v35,v48]).bind fun v50=>
 some (v50,0))
 (some (v35,0))))
 (cond p.HasUser
 ((W0 N p.User).bind fun v53=>
 (Wc N [v26,v53]).bind fun v55=>
 cond p.HasPass
 ((W0 N p.Pass).bind fun v58=>
 (Wc N [v55,v58]).bind fun v60=>
 some (v60,0))
 (some (v55,0)))
 (cond p.HasPass
 ((W0 N p.Pass).bind fun v63=>
 (Wc N [v26,v63]).bind fun v65=>
 some (v65,0))
 (some (v26,0))))))
theorem Qfk {N} {version} {p} {r} (h:Q2a N version p=some r):pU 235 [.int .i64 version,.agg (Q1.cells p)] (.tuple [.str r.1,.int .i64 r.2]):=by
 refine Q0 Zmt ?_;unfold Q2a at h;rw [cX] at h;refine cP h Qej (.cons (.p _) (.cons (Ap (Qo (f2_ (f1_ (.cons (.p _) p5))))) .nil)) fun v1 h=>?_;refine iL2 h fun h=>?_;refine cP h Q8x p3 fun v4 h=>?_;apply iU h<;>intro h
 ·apply iU h<;>intro h
  ·refine cP h Ys p2 fun v8 h=>?_;refine cK h Ws (.cons (frz_own (c:=cS) (l:=([[1],v8,v4]:List (List UInt8))) (fun _=>rfl) rfl trivial sd) .nil) fun v10 h=>?_;obtain rfl:=Qm h;exact u2
  refine cP h Ys p2 fun v12 h=>?_;refine cK h Ws (.cons (frz_own (c:=cS) (l:=([[0],v12,v4]:List (List UInt8))) (fun _=>rfl) rfl trivial sd) .nil) fun v14 h=>?_;obtain rfl:=Qm h;exact u2
 refine Qk ?_;refine cD h Ys p2 fun v16 h=>?_;refine cD h Qdu (.cons (Ap (Qo (f2_ (f1_ (.cons (.p _) p5))))) .nil) fun v18 h=>?_;refine cD h Ys p2 fun v20 h=>?_;refine cD h Ys p2 fun v22 h=>?_;refine cD h Wv p1 fun v24 h=>?_;refine dL h Ws [1] (.cons (frz_own (c:=cS) (l:=([[0,4,77,81,84,84],v16,v20,v22,v4,v24]:List (List UInt8))) (fun _=>rfl) rfl (by simp) sd) .nil) fun v26 h=>?_;apply iU h<;>intro h
 ·refine Qk ?_;refine cD h Q8x p3 fun v29 h=>?_;refine cD h Wv p1 fun v31 h=>?_;refine cD h Wv p1 fun v33 h=>?_;refine dL h Ws [2] (.cons (frz_own (c:=cS) (l:=([v26,v29,v31,v33]:List (List UInt8))) (fun _=>rfl) rfl (by simp) sd) .nil) fun v35 h=>?_;apply iU h<;>intro h
  ·refine cP h Wv p1 fun v38 h=>?_;refine cK h Ws (.cons (frz_own (c:=cS) (l:=([v35,v38]:List (List UInt8))) (fun _=>rfl) rfl trivial sd) .nil) fun v40 h=>?_;refine iR2 h fun h=>?_;refine cP h Wv p1 fun v43 h=>?_;refine cK h Ws (.cons (frz_own (c:=cS) (l:=([v40,v43]:List (List UInt8))) (fun _=>rfl) rfl trivial sd) .nil) fun v45 h=>?_;obtain rfl:=Qm h;exact u2
  refine iR2 h fun h=>?_;refine cP h Wv p1 fun v48 h=>?_;refine cK h Ws (.cons (frz_own (c:=cS) (l:=([v35,v48]:List (List UInt8))) (fun _=>rfl) rfl trivial sd) .nil) fun v50 h=>?_;obtain rfl:=Qm h;exact u2
 apply iU h<;>intro h
 ·refine cP h Wv p1 fun v53 h=>?_;refine cK h Ws (.cons (frz_own (c:=cS) (l:=([v26,v53]:List (List UInt8))) (fun _=>rfl) rfl trivial sd) .nil) fun v55 h=>?_;refine iR2 h fun h=>?_;refine cP h Wv p1 fun v58 h=>?_;refine cK h Ws (.cons (frz_own (c:=cS) (l:=([v55,v58]:List (List UInt8))) (fun _=>rfl) rfl trivial sd) .nil) fun v60 h=>?_;obtain rfl:=Qm h;exact u2
 refine iR2 h fun h=>?_;refine cP h Wv p1 fun v63 h=>?_;refine cK h Ws (.cons (frz_own (c:=cS) (l:=([v26,v63]:List (List UInt8))) (fun _=>rfl) rfl trivial sd) .nil) fun v65 h=>?_;obtain rfl:=Qm h;exact u2
def Q1b (N:Nat) (d:Zq):Option ((List UInt8)×Int):=
 (Q2a N d.version d.p).bind fun v1=>
 some (v1.1,v1.2)
theorem Q4t {N} {d} {r} (h:Q1b N d=some r):pU 170 [.agg (Zq.cells d)] (.tuple [.str r.1,.int .i64 r.2]):=by
 refine Q0 Zi8 ?_;unfold Q1b at h;refine cP h Qfk (.cons (.p _) (.cons (Ap (Qo (f2_ (f1_ (.cons (.p _) p5))))) .nil)) fun v1 h=>?_;obtain rfl:=Qm h;exact u2
def Q7k (_N:Nat) (version:Int) (kind:Int):Option Bool:=
 cond (Q3 .eql version 4)
 (cond (Q3 .geq kind 4)
 (some (Q3 .leq kind 7))
 (some false))
 (cond (Q3 .eql version 5)
 (cond (Q3 .geq kind 4)
 (some (Q3 .leq kind 7))
 (some false))
 (some false))
theorem Qjv {N} {version} {kind} {r} (h:Q7k N version kind=some r):pU 304 [.int .i64 version,.int .i64 kind] (.bool r):=by
 refine Q0 Zba ?_;unfold Q7k at h;rw [cX] at h;apply iU h<;>intro h
 ·exact iB h
 refine iR h fun h=>?_;exact iB h
def Q71 (N:Nat) (version:Int) (p:Q1):Option Int:=
 (Q7k N version p.Kind).bind fun v1=>
 cond (!v1)
 (some 2)
 (cond (Q3 .leq p.ID 0)
 (some 2)
 (cond (Q3 .geq p.ID 65536)
 (some 2)
 ((Q0q N p.Kind p.Code).bind fun v6=>
 cond (!v6)
 (some 2)
 (cond (Q3 .eql version 4)
 (cond (Q3 .neq p.Code 0)
 (some 2)
 (cond (Q3 .neq ((Q6 Qb.cells p.Props).length:Int) 0)
 (some 2)
 ((Z6 N p (⟨p.Kind,false,false,0,p.ID,[],[],false,0,[],false,[],false,[],false,(⟨[],[],0,false,[]⟩:Xn),false,p.Code,[],[],p.Props⟩:Q1)).bind fun v12=>
 cond (!v12)
 (some 2)
 ((X8 N p.Kind p.Props).bind fun v15=>
 some v15))))
 ((Z6 N p (⟨p.Kind,false,false,0,p.ID,[],[],false,0,[],false,[],false,[],false,(⟨[],[],0,false,[]⟩:Xn),false,p.Code,[],[],p.Props⟩:Q1)).bind fun v17=>
 cond (!v17)
 (some 2)
 ((X8 N p.Kind p.Props).bind fun v20=>
 some v20))))))
theorem Qjq {N} {version} {p} {r} (h:Q71 N version p=some r):pU 303 [.int .i64 version,.agg (Q1.cells p)] (.int .i64 r):=by
 refine Q0 Znd ?_;unfold Q71 at h;rw [cX] at h;refine cP h Qjv p2 fun v1 h=>?_;refine iL h fun h=>?_;refine iL h fun h=>?_;refine iL h fun h=>?_;refine cP h Q31 p2 fun v6 h=>?_;refine iL h fun h=>?_;apply iU h<;>intro h
 ·refine iL h fun h=>?_;refine iL h fun h=>?_;refine cP h Zc (.cons (Ap (Qo (f2_ (f1_ (.cons (.p _) p5))))) (.cons (Ap (Qo (f2_ (f1_ (.cons (.nil _) (f2_ (.cons (.nil _) (.cons (.nil _) p1)))))))) .nil)) fun v12 h=>?_;refine iL h fun h=>?_;refine cP h Xy p2 fun v15 h=>?_;cases h;exact (.p _)
 refine cP h Zc (.cons (Ap (Qo (f2_ (f1_ (.cons (.p _) p5))))) (.cons (Ap (Qo (f2_ (f1_ (.cons (.nil _) (f2_ (.cons (.nil _) (.cons (.nil _) p1)))))))) .nil)) fun v17 h=>?_;refine iL h fun h=>?_;refine cP h Xy p2 fun v20 h=>?_;cases h;exact (.p _)
def Q6w (N:Nat) (version:Int) (p:Q1):Option ((List UInt8)×Int):=
 (Q71 N version p).bind fun v1=>
 cond (Q3 .neq v1 0)
 (some ([],v1))
 ((X6 N (wrap .u64 p.ID) 2).bind fun v4=>
 cond (Q3 .neq p.Code 0)
 ((X6 N (wrap .u64 p.Code) 1).bind fun v7=>
 cond (Nat.ble (v4.length+v7.length) 4611686018427387904) (cond (Q3 .neq ((Q6 Qb.cells p.Props).length:Int) 0)
 ((Va N p.Kind p.Props).bind fun v11=>
 cond (Nat.ble ((v4++v7).length+v11.1.length) 4611686018427387904) (some (((v4++v7)++v11.1),0)) none)
 (some ((v4++v7),0))) none)
 (cond (Q3 .neq ((Q6 Qb.cells p.Props).length:Int) 0)
 ((X6 N (wrap .u64 p.Code) 1).bind fun v15=>
 cond (Nat.ble (v4.length+v15.length) 4611686018427387904) ((Va N p.Kind p.Props).bind fun v18=>
 cond (Nat.ble ((v4++v15).length+v18.1.length) 4611686018427387904) (some (((v4++v15)++v18.1),0)) none) none)
 (some (v4,0))))
theorem Qlh {N} {version} {p} {r} (h:Q6w N version p=some r):pU 237 [.int .i64 version,.agg (Q1.cells p)] (.tuple [.str r.1,.int .i64 r.2]):=by
 refine Q0 Zmr ?_;unfold Q6w at h;rw [cX] at h;refine cP h Qjq (.cons (.p _) (.cons (Ap (Qo (f2_ (f1_ (.cons (.p _) p5))))) .nil)) fun v1 h=>?_;refine iL2 h fun h=>?_;refine cP h Ys p2 fun v4 h=>?_;apply iU h<;>intro h
 ·refine cP h Ys p2 fun v7 h=>?_;refine kU h fun h=>?_;refine iR2 h fun h=>?_;refine cP h Jn p2 fun v11 h=>?_;refine kU h fun h=>?_;obtain rfl:=Qm h;exact u2
 refine ifO h (fun hc14 h=>?_) (fun hc14 h=>?_)
 ·refine cP h Ys p2 fun v15 h=>?_;refine kU h fun h=>?_;refine ifT hc14 ?_;refine cP h Jn p2 fun v18 h=>?_;refine kU h fun h=>?_;obtain rfl:=Qm h;exact u2
 refine ifF hc14 ?_;obtain rfl:=Qm h;exact u2
def Q0j (N:Nat) (d:Zq):Option ((List UInt8)×Int):=
 (Q6w N d.version d.p).bind fun v1=>
 some (v1.1,v1.2)
theorem Q1x {N} {d} {r} (h:Q0j N d=some r):pU 172 [.agg (Zq.cells d)] (.tuple [.str r.1,.int .i64 r.2]):=by
 refine Q0 Zim ?_;unfold Q0j at h;refine cP h Qlh (.cons (.p _) (.cons (Ap (Qo (f2_ (f1_ (.cons (.p _) p5))))) .nil)) fun v1 h=>?_;obtain rfl:=Qm h;exact u2
def Vi (_N:Nat) (kind:Int):Option Bool:=
 cond (Q3 .eql kind 8)
 (some true)
 (some (Q3 .eql kind 10))
theorem Q5o {N} {kind} {r} (h:Vi N kind=some r):pU 381 [.int .i64 kind] (.bool r):=by
 refine Q0 Zb4 ?_;unfold Vi at h;rw [cX] at h;exact iB h
def Ub (_N:Nat) (version:Int) (kind:Int):Option Bool:=
 cond (Q3 .eql kind 11)
 (some (Q3 .eql version 4))
 (some false)
theorem Q68 {N} {version} {kind} {r} (h:Ub N version kind=some r):pU 431 [.int .i64 version,.int .i64 kind] (.bool r):=by
 refine Q0 Zc1 ?_;unfold Ub at h;rw [cX] at h;exact iB h
def Q0y (N:Nat) (version:Int) (p:Q1):Option Bool:=
 cond (Q3 .lss p.ID 1)
 (some false)
 (cond (Q3 .gtr p.ID 65535)
 (some false)
 (cond (Q3 .eql version 4)
 (cond (Q3 .gtr ((Q6 Qb.cells p.Props).length:Int) 0)
 (some false)
 ((Vi N p.Kind).bind fun v5=>
 cond v5
 (cond (Q3 .gtr ((Q6 Qg.cells p.Filters).length:Int) 0)
 ((Z6 N p (⟨p.Kind,false,false,0,p.ID,[],[],false,0,[],false,[],false,[],false,(⟨[],[],0,false,[]⟩:Xn),false,0,[],p.Filters,p.Props⟩:Q1)).bind fun v9=>
 some v9)
 (some false))
 ((Ub N version p.Kind).bind fun v11=>
 cond v11
 ((Z6 N p (⟨p.Kind,false,false,0,p.ID,[],[],false,0,[],false,[],false,[],false,(⟨[],[],0,false,[]⟩:Xn),false,0,[],[],p.Props⟩:Q1)).bind fun v14=>
 some v14)
 (cond (Q3 .gtr ((Q6 (cI .i64) p.Codes).length:Int) 0)
 ((Z6 N p (⟨p.Kind,false,false,0,p.ID,[],[],false,0,[],false,[],false,[],false,(⟨[],[],0,false,[]⟩:Xn),false,0,p.Codes,[],p.Props⟩:Q1)).bind fun v17=>
 some v17)
 (some false)))))
 ((Vi N p.Kind).bind fun v19=>
 cond v19
 (cond (Q3 .gtr ((Q6 Qg.cells p.Filters).length:Int) 0)
 ((Z6 N p (⟨p.Kind,false,false,0,p.ID,[],[],false,0,[],false,[],false,[],false,(⟨[],[],0,false,[]⟩:Xn),false,0,[],p.Filters,p.Props⟩:Q1)).bind fun v23=>
 some v23)
 (some false))
 ((Ub N version p.Kind).bind fun v25=>
 cond v25
 ((Z6 N p (⟨p.Kind,false,false,0,p.ID,[],[],false,0,[],false,[],false,[],false,(⟨[],[],0,false,[]⟩:Xn),false,0,[],[],p.Props⟩:Q1)).bind fun v28=>
 some v28)
 (cond (Q3 .gtr ((Q6 (cI .i64) p.Codes).length:Int) 0)
 ((Z6 N p (⟨p.Kind,false,false,0,p.ID,[],[],false,0,[],false,[],false,[],false,(⟨[],[],0,false,[]⟩:Xn),false,0,p.Codes,[],p.Props⟩:Q1)).bind fun v31=>
 some v31)
 (some false))))))
theorem Qbt {N} {version} {p} {r} (h:Q0y N version p=some r):pU 373 [.int .i64 version,.agg (Q1.cells p)] (.bool r):=by
 refine Q0 Z9r ?_;unfold Q0y at h;rw [cX] at h;refine iL h fun h=>?_;refine iL h fun h=>?_;apply iU h<;>intro h
 ·refine iL h fun h=>?_;refine cP h Q5o p1 fun v5 h=>?_;apply iU h<;>intro h
  ·refine iR h fun h=>?_;refine cP h Zc (.cons (Ap (Qo (f2_ (f1_ (.cons (.p _) p5))))) (.cons (Ap (Qo (f2_ (f1_ (.cons (.nil _) (f2_ (.cons (.nil _) p2))))))) .nil)) fun v9 h=>?_;cases h;exact (.p _)
  refine cP h Q68 p2 fun v11 h=>?_;apply iU h<;>intro h
  ·refine cP h Zc (.cons (Ap (Qo (f2_ (f1_ (.cons (.p _) p5))))) (.cons (Ap (Qo (f2_ (f1_ (.cons (.nil _) (f2_ (.cons (.nil _) (.cons (.nil _) p1)))))))) .nil)) fun v14 h=>?_;cases h;exact (.p _)
  refine iR h fun h=>?_;refine cP h Zc (.cons (Ap (Qo (f2_ (f1_ (.cons (.p _) p5))))) (.cons (Ap (Qo (f2_ (f1_ (.cons (.nil _) (f2_ (f1_ (.cons (.nil _) p1)))))))) .nil)) fun v17 h=>?_;cases h;exact (.p _)
 refine cP h Q5o p1 fun v19 h=>?_;apply iU h<;>intro h
 ·refine iR h fun h=>?_;refine cP h Zc (.cons (Ap (Qo (f2_ (f1_ (.cons (.p _) p5))))) (.cons (Ap (Qo (f2_ (f1_ (.cons (.nil _) (f2_ (.cons (.nil _) p2))))))) .nil)) fun v23 h=>?_;cases h;exact (.p _)
 refine cP h Q68 p2 fun v25 h=>?_;apply iU h<;>intro h
 ·refine cP h Zc (.cons (Ap (Qo (f2_ (f1_ (.cons (.p _) p5))))) (.cons (Ap (Qo (f2_ (f1_ (.cons (.nil _) (f2_ (.cons (.nil _) (.cons (.nil _) p1)))))))) .nil)) fun v28 h=>?_;cases h;exact (.p _)
 refine iR h fun h=>?_;refine cP h Zc (.cons (Ap (Qo (f2_ (f1_ (.cons (.p _) p5))))) (.cons (Ap (Qo (f2_ (f1_ (.cons (.nil _) (f2_ (f1_ (.cons (.nil _) p1)))))))) .nil)) fun v31 h=>?_;cases h;exact (.p _)
def Q4j (_N:Nat) (s_0:List UInt8):Option Bool:=
 cond (Q0p .eql s_0 [43])
 (some true)
 (some (Q0p .eql s_0 [35]))
theorem Qbi {N} {s_0} {r} (h:Q4j N s_0=some r):pU 462 [.str s_0] (.bool r):=by
 refine Q0 Zlo ?_;unfold Q4j at h;rw [cY] at h;exact iB h
def Ye (N:Nat) (l:List (List UInt8)):Nat→Int→Option Bool
 | 0,_=>none
 | n+1,s36=>
  cond (Q3 .lss s36 ((Q6 cS l).length:Int))
  ((idx l s36).bind fun y38=>
  cond (Q0p .eql y38 [35])
  (cond (!(Q3 .eql (wrap .i64 (s36+1)) ((Q6 cS l).length:Int)))
  (some false)
  ((Q4j N y38).bind fun v42=>
  cond (!v42)
  ((Xk N y38).bind fun v45=>
  cond v45
  (some false)
  (Ye N l n (wrap .i64 (s36+1))))
  (Ye N l n (wrap .i64 (s36+1)))))
  ((Q4j N y38).bind fun v48=>
  cond (!v48)
  ((Xk N y38).bind fun v51=>
  cond v51
  (some false)
  (Ye N l n (wrap .i64 (s36+1))))
  (Ye N l n (wrap .i64 (s36+1)))))
  (some true)
def Q3p (N:Nat) (l:List (List UInt8)):Option Bool:=
 Ye N l N 0
theorem Qg6 {N} {l} {r} (h:Q3p N l=some r):pU 432 [.slice 1 (Q6 cS l)] (.bool r):=by
 refine Q0 Zlu ?_;unfold Q3p at h;refine lpH (τ:=Int) (fun s36=>(.p (.slice 1 (Q6 cS l))::a4 (.any :: .p (.slice 1 (Q6 cS l))::iI ((Q6 cS l).length:Int)::iI s36::a16 (a8 (.any :: []))):List AV)) (fun n0 s36=>Ye N l n0 s36) (0) h fun n0 s36 h=>?_
 first | rw [Ye] at h | simp only [Ye] at h
 rw [cX,cY] at h;refine iR h fun h=>?_;refine xR h fun y38 h=>?_;apply iU h<;>intro h
 ·refine iL h fun h=>?_;refine cP h Qbi p1 fun v42 h=>?_;apply iU h<;>intro h
  ·refine cP h Q0a p2 fun v45 h=>?_;refine iL h fun h=>?_;show Exists _;exact ⟨(n0,(wrap .i64 (s36+1))),h,Lf _,(fun i=>i),Yn⟩
  show Exists _;exact ⟨(n0,(wrap .i64 (s36+1))),h,Lf _,(fun i=>i),Yn⟩
 refine cP h Qbi p1 fun v48 h=>?_;apply iU h<;>intro h
 ·refine cP h Q0a p2 fun v51 h=>?_;refine iL h fun h=>?_;show Exists _;exact ⟨(n0,(wrap .i64 (s36+1))),h,Lf _,(fun i=>i),Yn⟩
 show Exists _;exact ⟨(n0,(wrap .i64 (s36+1))),h,Lf _,(fun i=>i),Yn⟩
def Yh (N:Nat) (s_0:List UInt8):Nat→Int→Nat→Option Int
 | 0,_,_=>none
 | n+1,n5,pos6=>
  cond (Nat.blt pos6 s_0.length)
  (Yh N s_0 n (wrap .i64 (n5+1)) (pos6+(Qfg s_0 pos6).2))
  (some n5)
def Ur (N:Nat) (s_0:List UInt8):Option Int:=
 Yh N s_0 N 0 0
theorem Q40 {N} {s_0} {r} (h:Ur N s_0=some r):pU 526 [.str s_0] (.int .i64 r):=by
 refine Q0 Zna ?_;unfold Ur at h;refine lpA (τ:=Int×Nat) (fun ⟨n5,_⟩=>(.any :: .any::iI n5 :: .any :: .ptr 0 0::a4 (.any :: []):List AV)) (fun ⟨_,pos6⟩=>(.strIter s_0 pos6 :: []:List AObj)) (fun n0 ⟨n5,pos6⟩=>Yh N s_0 n0 n5 pos6) (0,0) h fun n0 ⟨n5,pos6⟩ h=>?_
 first | rw [Yh] at h | simp only [Yh] at h
 refine iR h fun h=>?_;show Exists _;exact ⟨(n0,(wrap .i64 (n5+1)),(pos6+(Qfg s_0 pos6).2)),h,Lf _,(fun i=>i),Yn⟩
def Xa (_N:Nat) (s_0:List UInt8):Option (Int×Int):=
 cond (Q3 .lss (s_0.length:Int) 1)
 (some (65533,0))
 ((idx s_0 0).bind fun b2=>
 (idx gtab0 (b2.toNat:Int)).bind fun y4=>
 cond (Q3 .geq y4 240)
 ((idx s_0 0).bind fun b7=>
 some ((orI .i32 (Q2e .i32 (wrap .i32 (b7.toNat:Int)) (Qcl .i32 (Qb3 .i32 (wrap .i32 y4) 31) 31)) (Q6v .i32 65533 (Qcl .i32 (Qb3 .i32 (wrap .i32 y4) 31) 31))),1))
 ((idx gtab1 (Qcl .u8 y4 4)).bind fun y9=>
 cond (Q3 .lss (s_0.length:Int) (wrap .i64 (Q6v .u8 y4 7)))
 (some (65533,1))
 ((idx s_0 1).bind fun b12=>
 cond (Q3 .lss (b12.toNat:Int) y9.1)
 (some (65533,1))
 (cond (Q3 .lss y9.2 (b12.toNat:Int))
 (some (65533,1))
 (cond (Q3 .leq (wrap .i64 (Q6v .u8 y4 7)) 2)
 (some ((orI .i32 (Qb3 .i32 (wrap .i32 (Q6v .u8 (b2.toNat:Int) 31)) 6) (wrap .i32 (Q6v .u8 (b12.toNat:Int) 63))),2))
 ((idx s_0 2).bind fun b17=>
 cond (Q3 .lss (b17.toNat:Int) 128)
 (some (65533,1))
 (cond (Q3 .lss 191 (b17.toNat:Int))
 (some (65533,1))
 (cond (Q3 .leq (wrap .i64 (Q6v .u8 y4 7)) 3)
 (some ((orI .i32 (orI .i32 (Qb3 .i32 (wrap .i32 (Q6v .u8 (b2.toNat:Int) 15)) 12) (Qb3 .i32 (wrap .i32 (Q6v .u8 (b12.toNat:Int) 63)) 6)) (wrap .i32 (Q6v .u8 (b17.toNat:Int) 63))),3))
 ((idx s_0 3).bind fun b22=>
 cond (Q3 .lss (b22.toNat:Int) 128)
 (some (65533,1))
 (cond (Q3 .lss 191 (b22.toNat:Int))
 (some (65533,1))
 (some ((orI .i32 (orI .i32 (orI .i32 (Qb3 .i32 (wrap .i32 (Q6v .u8 (b2.toNat:Int) 7)) 18) (Qb3 .i32 (wrap .i32 (Q6v .u8 (b12.toNat:Int) 63)) 12)) (Qb3 .i32 (wrap .i32 (Q6v .u8 (b17.toNat:Int) 63)) 6)) (wrap .i32 (Q6v .u8 (b22.toNat:Int) 63))),4))))))))))))
theorem Jb {N} {s_0} {r} (h:Xa N s_0=some r):pU 532 [.str s_0] (.tuple [.int .i32 r.1,.int .i64 r.2]):=by
 refine Q0 Zpx ?_;unfold Xa at h;rw [cX] at h;refine iL2 h fun h=>?_;refine xB h fun b2 h=>?_;obtain ⟨y4,hy5,h⟩:=Q36 h;refine Q37 (Q8i hy5 Qvm) ?_
 refine Qvg (c:=(cI .u8)) (e:=1) (fun _=>rfl) Qxp hy5 (off:=0) (by decide) (by first | omega | (simp only [Q6v,orI,Qnh,Q2e,Qb3,Qcl];omega)) ?_
 apply iU h<;>intro h
 ·refine xB h fun b7 h=>?_;obtain rfl:=Qm h;exact u2
 obtain ⟨y9,hy10,h⟩:=Q36 h;refine Q37 (Q8i hy10 Qwe) ?_
 refine Qvg (c:=cUU) (e:=2) (fun _=>rfl) Qy7 hy10 (off:=0) (by decide) (by first | omega | (simp only [Q6v,orI,Qnh,Q2e,Qb3,Qcl];omega)) ?_
 refine iL2 h fun h=>?_;refine xB h fun b12 h=>?_;refine iL2 h fun h=>?_;refine iL2 h fun h=>?_;refine iL2 h fun h=>?_;refine xB h fun b17 h=>?_;refine iL2 h fun h=>?_;refine iL2 h fun h=>?_;refine iL2 h fun h=>?_;refine xB h fun b22 h=>?_;refine iL2 h fun h=>?_;exact iB2 h
end
end
end Go.Av
