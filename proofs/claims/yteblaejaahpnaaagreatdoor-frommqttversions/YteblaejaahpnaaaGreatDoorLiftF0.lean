/- Part of the proof of FrommqttVersions: for every input the law returns true; no condition. -/
import Derived.Test.YteblaejaahpnaaaGreatDoorLiftTy
import Derived.Test.YteblaejaahpnaaaGreatDoorChks
import Derived.Test.YteblaejaahpnaaaGreatDoorSeat1
import Derived.Test.YteblaejaahpnaaaGreatDoorKn1
import Derived.Test.YteblaejaahpnaaaGreatDoorLift2
import Derived.Test.YteblaejaahpnaaaGreatDoorClones
set_option linter.all false
open Go.IntKind (wrap)
namespace Go.Av
noncomputable section
open Go.Proofs
set_option maxRecDepth 100000
set_option maxHeartbeats 4000000
attribute [local irreducible] Vh Xf Qac Qfx Qo2 Qpd Qfp
section
abbrev pU:=Qg6 Tryz.prog G1
abbrev gU:=GC Tryz.prog G1
def Q03 (_N:Nat) (version:Int):Option (Int×Bool):=
 cond (Q4 .eql version 4)
 (some (1,true))
 (cond (Q4 .eql version 5)
 (some (2,true))
 (some (0,false)))
theorem Q51 {N} {version} {r} (h:Q03 N version=some r):pU 23 [.int .i64 version] (.tuple [.int .i64 r.1,.bool r.2]):=by
 refine Q0 k23 ?_;unfold Q03 at h;rw [cX] at h;refine iL2 h fun h=>?_;exact iB2 h
def Ua (_N:Nat) (s_0:List UInt8):Option Bool:=
 cond (Q4 .geq (s_0.length:Int) 3)
 (cond (Nat.ble 0 3&&Nat.ble 3 s_0.length) (some (G0 .eql ((s_0.take 3).drop 0) [239,191,189])) none)
 (some false)
theorem Q65 {N} {s_0} {r} (h:Ua N s_0=some r):pU 394 [.str s_0] (.bool r):=by
 refine Q0 Qu4 ?_;unfold Ua at h;rw [cX,cY] at h;refine iR h fun h=>?_;refine kU h fun h=>?_;cases h;exact (.p _)
def Yy (N:Nat) (s_0:List UInt8):Nat→Nat→Option Int
 | 0,_=>none
 | n+1,pos16=>
  cond (Nat.blt pos16 s_0.length)
  (cond (Q4 .eql (((Q7p s_0 pos16).1:Nat):Int) 0)
  (some ((pos16:Nat):Int))
  (cond (Q4 .eql (((Q7p s_0 pos16).1:Nat):Int) 65533)
  (cond (Nat.ble pos16 s_0.length&&Nat.ble s_0.length s_0.length) ((Ua N ((s_0.take s_0.length).drop pos16)).bind fun v21=>
  cond (!v21)
  (some ((pos16:Nat):Int))
  (Yy N s_0 n (pos16+(Q7p s_0 pos16).2))) none)
  (Yy N s_0 n (pos16+(Q7p s_0 pos16).2))))
  (some (-1))
def Q0f (N:Nat) (s_0:List UInt8):Option Int:=
 Yy N s_0 N 0
theorem Q83 {N} {s_0} {r} (h:Q0f N s_0=some r):pU 324 [.str s_0] (.int .i64 r):=by
 refine Q0 Qy1 ?_;unfold Q0f at h;refine lpA (τ:=Nat) (fun _=>(iS s_0::a4 (.any :: .ptr 0 0::a16 (a2 ([]))):List AV)) (fun pos16=>(.strIter s_0 pos16 :: []:List AObj)) (fun n0 pos16=>Yy N s_0 n0 pos16) (0) h fun n0 pos16 h=>?_
 first | rw [Yy] at h | simp only [Yy] at h
 rw [cX] at h;refine iR h fun h=>?_;refine iL h fun h=>?_;apply iU h<;>intro h
 ·refine kU h fun h=>?_;refine cP h Q65 p1 fun v21 h=>?_;refine iL h fun h=>?_;show Exists _;exact ⟨(n0,(pos16+(Q7p s_0 pos16).2)),h,Li _,(fun i=>i),Jd⟩
 show Exists _;exact ⟨(n0,(pos16+(Q7p s_0 pos16).2)),h,Li _,(fun i=>i),Jd⟩
def U1 (N:Nat) (s_0:List UInt8):Option Bool:=
 cond (Q4 .leq (s_0.length:Int) 65535)
 ((Q0f N s_0).bind fun v2=>
 some (Q4 .eql v2 (-1)))
 (some false)
theorem Q1g {N} {s_0} {r} (h:U1 N s_0=some r):pU 245 [.str s_0] (.bool r):=by
 refine Q0 Qvv ?_;unfold U1 at h;rw [cX] at h;refine iR h fun h=>?_;refine cP h Q83 p1 fun v2 h=>?_;cases h;exact (.p _)
def Q1k (N:Nat) (s_0:List UInt8):Option Bool:=
 cond (G0 .neq s_0 [])
 ((U1 N s_0).bind fun v2=>
 some v2)
 (some false)
theorem Q9w {N} {s_0} {r} (h:Q1k N s_0=some r):pU 181 [.str s_0] (.bool r):=by
 refine Q0 Z50 ?_;unfold Q1k at h;rw [cY] at h;refine iR h fun h=>?_;refine cP h Q1g p1 fun v2 h=>?_;cases h;exact (.p _)
def Y5 (_N:Nat) (s_0:List UInt8) (c:Int):Option Int:=
 some (Qf3 s_0 (UInt8.ofNat (Int.toNat c)) 0:Int)
theorem Uy {N} {s_0} {c} {r} (h:Y5 N s_0 c=some r):pU 442 [.str s_0,.int .u8 c] (.int .i64 r):=by
 refine Q0 Qxe ?_;unfold Y5 at h;cases h;exact (.p _)
def Vq (N:Nat) (s_0:List UInt8) (c:Int):Option Int:=
 (Y5 N s_0 c).bind fun v1=>
 some v1
theorem Ga {N} {s_0} {c} {r} (h:Vq N s_0 c=some r):pU 395 [.str s_0,.int .u8 c] (.int .i64 r):=by
 refine Q0 Z2h ?_;unfold Vq at h;refine cP h Uy p2 fun v1 h=>?_;cases h;exact (.p _)
def Yl (_N:Nat) (r_0:Int):Option Bool:=
 cond (Q4 .leq 0 r_0)
 (cond (Q4 .lss r_0 55296)
 (some true)
 (cond (Q4 .lss 57343 r_0)
 (cond (Q4 .leq r_0 1114111)
 (some true)
 (some false))
 (some false)))
 (cond (Q4 .lss 57343 r_0)
 (cond (Q4 .leq r_0 1114111)
 (some true)
 (some false))
 (some false))
theorem Q0u {N} {r_0} {r} (h:Yl N r_0=some r):pU 396 [.int .i32 r_0] (.bool r):=by
 refine Q0 Z59 ?_;unfold Yl at h;rw [cX] at h;apply iU h<;>intro h
 ·refine iL h fun h=>?_;refine iR h fun h=>?_;exact iB h
 refine iR h fun h=>?_;exact iB h
def Za (N:Nat) (s_0:List UInt8):Nat→Nat→Option Int
 | 0,_=>none
 | n+1,pos13=>
  cond (Nat.blt pos13 s_0.length)
  (cond (Q4 .eql (((Q7p s_0 pos13).1:Nat):Int) 65533)
  (some ((pos13:Nat):Int))
  (Za N s_0 n (pos13+(Q7p s_0 pos13).2)))
  (some (-1))
def X0 (N:Nat) (s_0:List UInt8) (r_1:Int) (v82:Int):Nat→Int→Option Int
 | 0,_=>none
 | n+1,j98=>
  cond (Q4 .lss j98 (((Utf8.encode r_1).data.toList).length:Int))
  ((idx s_0 (wrap .i64 ((wrap .i64 ((wrap .i64 ((((Utf8.encode r_1).data.toList).length:Int) - 1))+(wrap .i64 (v82+1)))) - j98))).bind fun b100=>
  (idx ((Utf8.encode r_1).data.toList) (wrap .i64 ((wrap .i64 ((((Utf8.encode r_1).data.toList).length:Int) - 1)) - j98))).bind fun b102=>
  cond (Q4 .neq (b100.toNat:Int) (b102.toNat:Int))
  (none)
  (X0 N s_0 r_1 v82 n (wrap .i64 (j98+1))))
  (some (wrap .i64 ((wrap .i64 ((wrap .i64 ((((Utf8.encode r_1).data.toList).length:Int) - 1))+(wrap .i64 (v82+1)))) - (wrap .i64 ((((Utf8.encode r_1).data.toList).length:Int) - 1)))))
def Yz (N:Nat) (s_0:List UInt8) (r_1:Int):Nat→Int→Option Int
 | 0,_=>none
 | n+1,j118=>
  cond (Q4 .lss j118 (((Utf8.encode r_1).data.toList).length:Int))
  ((idx s_0 (wrap .i64 ((wrap .i64 ((((Utf8.encode r_1).data.toList).length:Int) - 1)) - j118))).bind fun b120=>
  (idx ((Utf8.encode r_1).data.toList) (wrap .i64 ((wrap .i64 ((((Utf8.encode r_1).data.toList).length:Int) - 1)) - j118))).bind fun b122=>
  cond (Q4 .neq (b120.toNat:Int) (b122.toNat:Int))
  (none)
  (Yz N s_0 r_1 n (wrap .i64 (j118+1))))
  (some (wrap .i64 ((wrap .i64 ((((Utf8.encode r_1).data.toList).length:Int) - 1)) - (wrap .i64 ((((Utf8.encode r_1).data.toList).length:Int) - 1)))))
def Yi (N:Nat) (s_0:List UInt8) (r_1:Int):Nat→Option Int
 | 0=>none
 | n+1=>
  cond (Q4 .lss (wrap .i64 ((((Utf8.encode r_1).data.toList).length:Int) - 1)) (s_0.length:Int))
  ((idx s_0 (wrap .i64 ((((Utf8.encode r_1).data.toList).length:Int) - 1))).bind fun b73=>
  (idx ((Utf8.encode r_1).data.toList) (wrap .i64 ((((Utf8.encode r_1).data.toList).length:Int) - 1))).bind fun b75=>
  cond (Q4 .neq (b73.toNat:Int) (b75.toNat:Int))
  (cond (decide (0≤(wrap .i64 ((wrap .i64 ((((Utf8.encode r_1).data.toList).length:Int) - 1))+1)))) (cond (Nat.ble (wrap .i64 ((wrap .i64 ((((Utf8.encode r_1).data.toList).length:Int) - 1))+1)).toNat s_0.length&&Nat.ble s_0.length s_0.length) ((idx ((Utf8.encode r_1).data.toList) (wrap .i64 ((((Utf8.encode r_1).data.toList).length:Int) - 1))).bind fun b80=>
  (Vq N ((s_0.take s_0.length).drop ((wrap .i64 ((wrap .i64 ((((Utf8.encode r_1).data.toList).length:Int) - 1))+1)).toNat)) (b80.toNat:Int)).bind fun v82=>
  cond (Q4 .lss v82 0)
  (some (-1))
  (X0 N s_0 r_1 v82 N 1)) none) none)
  (Yz N s_0 r_1 N 1))
  (some (-1))
def X1 (N:Nat) (s_0:List UInt8) (r_1:Int) (s2:Bool):Option Int:=
 cond s2
 ((Vq N s_0 (wrap .u8 r_1)).bind fun v5=>
 some v5)
 (cond (Q4 .eql r_1 65533)
 (Za N s_0 N 0)
 ((Yl N r_1).bind fun v16=>
 cond (!v16)
 (some (-1))
 (Yi N s_0 r_1 N)))
def Vk (N:Nat) (s_0:List UInt8) (r_1:Int):Option Int:=
 cond (Q4 .leq 0 r_1)
 (X1 N s_0 r_1 (Q4 .lss r_1 128))
 (X1 N s_0 r_1 false)
theorem Q3f {N} {s_0} {r_1} {r} (h:Vk N s_0 r_1=some r):pU 325 [.str s_0,.int .i32 r_1] (.int .i64 r):=by
 refine Q0 Z6j ?_;unfold Vk at h;rw [cX] at h;refine jrH (r:=r) (σ:=Bool) (fun s2=>(iS s_0 :: .p (.int .i32 r_1)::a16 (a16 (a16 (a16 (a16 (a16 (a16 (a16 (a16 (a8 (a4 (a2 (.p (.bool s2)::a16 (a8 (a2 ([]))))))))))))))):List AV)) (fun s2=>X1 N s_0 r_1 s2) ?_ ?_
 ·apply iU h<;>intro h
  ·show Exists _;exact ⟨((Qoc .lss r_1 128)),h,(fun i=>i),Jd⟩
  show Exists _;exact ⟨(false),h,(fun i=>i),Jd⟩
 rintro s2 h
 unfold X1 at h;rw [cX] at h;apply iU h<;>intro h
 ·refine cP h Ga p2 fun v5 h=>?_;cases h;exact (.p _)
 apply iU h<;>intro h
 ·refine lpA (τ:=Nat) (fun _=>(a16 (a16 (a16 (a16 (a16 (a16 (a16 (a16 (a16 (a16 (a8 (a4 (a2 (.any :: .ptr 0 0::a8 (a2 (.any :: []))))))))))))))):List AV)) (fun pos13=>(.strIter s_0 pos13 :: []:List AObj)) (fun n1 pos13=>Za N s_0 n1 pos13) (0) h fun n1 pos13 h=>?_
  first | rw [Za] at h | simp only [Za] at h
  rw [cX] at h;refine iR h fun h=>?_;refine iL h fun h=>?_;show Exists _;exact ⟨(n1,(pos13+(Q7p s_0 pos13).2)),h,Li _,(fun i=>i),Jd⟩
 refine cP h Q0u p1 fun v16 h=>?_;refine iL h fun h=>?_;refine lpH (τ:=Unit) (fun _=>(iS s_0::a4 (a2 (iS ((Utf8.encode r_1).data.toList) :: .p (.int .i64 (wrap .i64 ((((Utf8.encode r_1).data.toList).length:Int) - 1))) :: .p (.int .i64 (wrap .i64 ((((Utf8.encode r_1).data.toList).length:Int) - 1)))::a16 (a16 (a16 (a16 (a16 (a16 (a16 (a16 (a16 (a16 (a16 (.any :: []))))))))))))):List AV)) (fun n2 ⟨⟩=>Yi N s_0 r_1 n2) () h fun n2 ⟨⟩ h=>?_
 first | rw [Yi] at h | simp only [Yi] at h
 rw [cX] at h;refine iR h fun h=>?_;refine Qv ?_;refine xB h fun b73 h=>?_;refine xB h fun b75 h=>?_;apply iU h<;>intro h
 ·refine Qv ?_;refine kU h fun h=>?_;refine kU h fun h=>?_;refine xB h fun b80 h=>?_;refine cD h Ga p2 fun v82 h=>?_;refine iL h fun h=>?_;refine lpH (τ:=Int) (fun j98=>(iS s_0::a4 (a2 (iS ((Utf8.encode r_1).data.toList) :: .p (.int .i64 (wrap .i64 ((((Utf8.encode r_1).data.toList).length:Int) - 1))) :: .p (.int .i64 (wrap .i64 ((wrap .i64 ((((Utf8.encode r_1).data.toList).length:Int) - 1))+(wrap .i64 (v82+1))))) :: .any :: .any::iI j98::a16 (a16 (a16 (a16 (a16 (a16 (a16 (a16 (a16 (a16 (a8 (a4 (a2 ([]))))))))))))))):List AV)) (fun n3 j98=>X0 N s_0 r_1 v82 n3 j98) (1) h fun n3 j98 h=>?_
  first | rw [X0] at h | simp only [X0] at h
  rw [cX] at h;refine iR h fun h=>?_;refine Qv ?_;refine xB h fun b100 h=>?_;refine xB h fun b102 h=>?_;apply iU h<;>intro h
  ·first | (cases h;done) | (simp [Z6] at h;done)
  show Exists _;exact ⟨(n3,(wrap .i64 (j98+1))),h,Li _,(fun i=>i),Jd⟩
 refine lpH (τ:=Int) (fun j118=>(iS s_0::a4 (a2 (iS ((Utf8.encode r_1).data.toList) :: .p (.int .i64 (wrap .i64 ((((Utf8.encode r_1).data.toList).length:Int) - 1))) :: .p (.int .i64 (wrap .i64 ((((Utf8.encode r_1).data.toList).length:Int) - 1))) :: .any :: .any::iI j118::a16 (a16 (a16 (a16 (a16 (a16 (a16 (a16 (a16 (a16 (a8 (a4 (a2 ([]))))))))))))))):List AV)) (fun n4 j118=>Yz N s_0 r_1 n4 j118) (1) h fun n4 j118 h=>?_
 first | rw [Yz] at h | simp only [Yz] at h
 rw [cX] at h;refine iR h fun h=>?_;refine Qv ?_;refine xB h fun b120 h=>?_;refine xB h fun b122 h=>?_;apply iU h<;>intro h
 ·first | (cases h;done) | (simp [Z6] at h;done)
 show Exists _;exact ⟨(n4,(wrap .i64 (j118+1))),h,Li _,(fun i=>i),Jd⟩
def Wf (_N:Nat) (bufLen:Int):Option Bool:=
 some (Q4 .gtr bufLen 8)
theorem Gr {N} {bufLen} {r} (h:Wf N bufLen=some r):pU 326 [.int .i64 bufLen] (.bool r):=by
 refine Q0 Z64 ?_;unfold Wf at h;rw [cX] at h;cases h;exact (.p _)
def Y4 (N:Nat) (s_0:List UInt8):Nat→Int→Option Int
 | 0,_=>none
 | n+1,i20=>
  cond (Q4 .lss i20 (s_0.length:Int))
  ((idx s_0 i20).bind fun b22=>
  cond (decide (0≤(b22.toNat:Int))&&decide ((b22.toNat:Int)<((256:Nat):Int))) ((idx ([false,false,false,false,false,false,false,false,false,false,false,false,false,false,false,false,false,false,false,false,false,false,false,false,false,false,false,false,false,false,false,false,false,false,false,true,false,false,false,false,false,false,false,true,false,false,false,false,false,false,false,false,false,false,false,false,false,false,false,false,false,false,false,false,false,false,false,false,false,false,false,false,false,false,false,false,false,false,false,false,false,false,false,false,false,false,false,false,false,false,false,false,false,false,false,false,false,false,false,false,false,false,false,false,false,false,false,false,false,false,false,false,false,false,false,false,false,false,false,false,false,false,false,false,false,false,false,false,false,false,false,false,false,false,false,false,false,false,false,false,false,false,false,false,false,false,false,false,false,false,false,false,false,false,false,false,false,false,false,false,false,false,false,false,false,false,false,false,false,false,false,false,false,false,false,false,false,false,false,false,false,false,false,false,false,false,false,false,false,false,false,false,false,false,false,false,false,false,false,false,false,false,false,false,false,false,false,false,false,false,false,false,false,false,false,false,false,false,false,false,false,false,false,false,false,false,false,false,false,false,false,false,false,false,false,false,false,false,false,false,false,false,false,false,false,false,false,false,false,false,false,false,false,false,false,false]:List Bool) (b22.toNat:Int)).bind fun y24=>
  cond y24
  (some i20)
  (Y4 N s_0 n (wrap .i64 (i20+1)))) none)
  (some (-1))
def Y2 (N:Nat) (s_0:List UInt8):Nat→Nat→Option Int
 | 0,_=>none
 | n+1,pos37=>
  cond (Nat.blt pos37 s_0.length)
  ((Vk N [43,35] (((Q7p s_0 pos37).1:Nat):Int)).bind fun v39=>
  cond (Q4 .geq v39 0)
  (some ((pos37:Nat):Int))
  (Y2 N s_0 n (pos37+(Q7p s_0 pos37).2)))
  (some (-1))
def Wx (N:Nat) (s_0:List UInt8):Option Int:=
 cond (G0 .eql [43,35] [])
 (some (-1))
 ((Wf N (s_0.length:Int)).bind fun v2=>
 cond v2
 (Y4 N s_0 N 0)
 (Y2 N s_0 N 0))
theorem Q1w {N} {s_0} {r} (h:Wx N s_0=some r):pU 246 [.str s_0,.str [43,35]] (.int .i64 r):=by
 refine Q0 Qw3 ?_;unfold Wx at h;rw [cY] at h;refine iL h fun h=>?_;refine dF ?_;refine cP h Gr p1 fun v2 h=>?_;apply iU h<;>intro h
 ·refine Zf Qwm ?_;refine Q5b 4 ?_;refine dT ?_;refine dF ?_;refine dT ?_;refine dF ?_;refine dF ?_;refine lpH (τ:=Int) (fun i20=>(iS s_0::a4 (.any :: .ptr 1 0 :: .any::iI i20::a16 (a16 (a8 (a4 (a2 ([])))))):List AV)) (fun n0 i20=>Y4 N s_0 n0 i20) (0) h fun n0 i20 h=>?_
  first | rw [Y4] at h | simp only [Y4] at h
  rw [cX] at h;refine iR h fun h=>?_;refine xB h fun b22 h=>?_;refine Zf Qyu ?_;refine kU h fun h=>?_;obtain ⟨y24,hy25,h⟩:=Q54 h
  refine Qos (c:=cB) (e:=1) (fun _=>rfl) hy25 (off:=0) (by decide) (by first | omega | (simp only [Qpz,orI,Qw9,Qkt,Qmk,Qiz];omega)) ?_
  refine iL h fun h=>?_;show Exists _;exact ⟨(n0,(wrap .i64 (i20+1))),h,Li _,(fun i=>i),Jd⟩
 refine lpA (τ:=Nat) (fun _=>(.any :: .p (.str [43,35])::a16 (a16 (a8 (a2 (.any :: .ptr 0 0::a8 (.any :: []))))):List AV)) (fun pos37=>(.strIter s_0 pos37 :: []:List AObj)) (fun n1 pos37=>Y2 N s_0 n1 pos37) (0) h fun n1 pos37 h=>?_
 first | rw [Y2] at h | simp only [Y2] at h
 rw [cX] at h;refine iR h fun h=>?_;refine cP h Q3f p2 fun v39 h=>?_;refine iL h fun h=>?_;show Exists _;exact ⟨(n1,(pos37+(Q7p s_0 pos37).2)),h,Li _,(fun i=>i),Jd⟩
def Xk (N:Nat) (s_0:List UInt8):Option Bool:=
 (Wx N s_0).bind fun v1=>
 some (Q4 .geq v1 0)
theorem Q0o {N} {s_0} {r} (h:Xk N s_0=some r):pU 182 [.str s_0,.str [43,35]] (.bool r):=by
 refine Q0 Z0d ?_;unfold Xk at h;rw [cX] at h;refine cP h Q1w p2 fun v1 h=>?_;cases h;exact (.p _)
def Gt (N:Nat) (s_0:List UInt8):Option Bool:=
 (Q1k N s_0).bind fun v1=>
 cond v1
 ((Xk N s_0).bind fun v4=>
 some (!v4))
 (some false)
theorem Q48 {N} {s_0} {r} (h:Gt N s_0=some r):pU 98 [.str s_0] (.bool r):=by
 refine Q0 k98 ?_;unfold Gt at h;refine cP h Q9w p1 fun v1 h=>?_;refine iR h fun h=>?_;refine cP h Q0o p2 fun v4 h=>?_;cases h;exact (.p _)
def Q1h (_N:Nat) (p:Q5):Option (Q28):=
 some (⟨p.Kind,p.QoS,p.ID,p.KeepAlive,p.Code,p.Dup,p.Retain,p.Clean,p.HasUser,p.HasPass,p.HasWill,p.Session,p.Topic,p.Payload,p.Client,p.User,p.Pass⟩:Q28)
theorem Q41 {N} {p} {r} (h:Q1h N p=some r):pU 248 [.agg (Q5.cells p)] (.agg (Q28.cells r)):=by
 refine Q0 Qza ?_;unfold Q1h at h;obtain rfl:=Qk h;exact (Frz.agg' (f8_ (f2_ (f1_ (.cons (.p _) p5)))))
def U3 (_N:Nat) (a:Qj) (b:Qj):Option Bool:=
 some (((a.ID:Int) == b.ID)&&(((a.N':Int) == b.N')&&(((a.Text:List UInt8) == b.Text)&&(((a.Value:List UInt8) == b.Value)&&true))))
theorem Q2e {N} {a} {b} {r} (h:U3 N a b=some r):pU 334 [.agg (Qj.cells a),.agg (Qj.cells b)] (.bool r):=by
 refine Q0 Qtm ?_;unfold U3 at h;cases h;exact (.p _)
def Y9 (N:Nat) (a:List Qj) (b:List Qj):Nat→Int→Option Bool
 | 0,_=>none
 | n+1,s19=>
  cond (Q4 .lss s19 ((Qc Qj.cells a).length:Int))
  ((idx a s19).bind fun y21=>
  (idx b s19).bind fun y23=>
  (U3 N y21 y23).bind fun v25=>
  cond (!v25)
  (some false)
  (Y9 N a b n (wrap .i64 (s19+1))))
  (some true)
def Yx (N:Nat) (a:List Qj) (b:List Qj):Option Bool:=
 cond (Q4 .neq ((Qc Qj.cells a).length:Int) ((Qc Qj.cells b).length:Int))
 (some false)
 (Y9 N a b N 0)
theorem Ju {N} {a} {b} {r} (h:Yx N a b=some r):pU 252 [.slice 4 (Qc Qj.cells a),.slice 4 (Qc Qj.cells b)] (.bool r):=by
 refine Q0 Qwb ?_;unfold Yx at h;rw [cX] at h;refine Zf Qv3 ?_;refine iL h fun h=>?_;refine lpH (τ:=Int) (fun s19=>(.any :: .p (.slice 4 (Qc Qj.cells b)) :: .p (.func (.func 334) [] [])::a8 (a4 (.p (.slice 4 (Qc Qj.cells a))::iI ((Qc Qj.cells a).length:Int)::iI s19::a8 (a4 (a2 ([]))))):List AV)) (fun n0 s19=>Y9 N a b n0 s19) (0) h fun n0 s19 h=>?_
 first | rw [Y9] at h | simp only [Y9] at h
 rw [cX] at h;refine iR h fun h=>?_;refine xR h fun y21 h=>?_;refine xR h fun y23 h=>?_;refine cP h Q2e (.cons q4 (.cons q4 .nil)) fun v25 h=>?_;refine iL h fun h=>?_;show Exists _;exact ⟨(n0,(wrap .i64 (s19+1))),h,Li _,(fun i=>i),Jd⟩
def Uc (N:Nat) (a:W7) (b:W7):Option Bool:=
 cond (G0 .eql a.Topic b.Topic)
 (cond (G0 .eql a.Payload b.Payload)
 (cond (Q4 .eql a.QoS b.QoS)
 (cond (a.Retain == b.Retain)
 ((Yx N a.Props b.Props).bind fun v5=>
 some v5)
 (some false))
 (some false))
 (some false))
 (some false)
theorem Q6j {N} {a} {b} {r} (h:Uc N a b=some r):pU 249 [.agg (W7.cells a),.agg (W7.cells b)] (.bool r):=by
 refine Q0 Qtc ?_;unfold Uc at h;rw [cX,cY] at h;refine iR h fun h=>?_;refine iR h fun h=>?_;refine iR h fun h=>?_;refine iR h fun h=>?_;refine cP h Ju p2 fun v5 h=>?_;cases h;exact (.p _)
def Q06 (_N:Nat) (a:Int) (b:Int):Option Bool:=
 some (Q4 .eql a b)
theorem Q5f {N} {a} {b} {r} (h:Q06 N a b=some r):pU 330 [.int .i64 a,.int .i64 b] (.bool r):=by
 refine Q0 Qun ?_;unfold Q06 at h;rw [cX] at h;cases h;exact (.p _)
def Xl (N:Nat) (a:List Int) (b:List Int):Nat→Int→Option Bool
 | 0,_=>none
 | n+1,s19=>
  cond (Q4 .lss s19 ((Qc (cI .i64) a).length:Int))
  ((idx a s19).bind fun y21=>
  (idx b s19).bind fun y23=>
  (Q06 N y21 y23).bind fun v25=>
  cond (!v25)
  (some false)
  (Xl N a b n (wrap .i64 (s19+1))))
  (some true)
def Uf (N:Nat) (a:List Int) (b:List Int):Option Bool:=
 cond (Q4 .neq ((Qc (cI .i64) a).length:Int) ((Qc (cI .i64) b).length:Int))
 (some false)
 (Xl N a b N 0)
theorem Q6b {N} {a} {b} {r} (h:Uf N a b=some r):pU 250 [.slice 1 (Qc (cI .i64) a),.slice 1 (Qc (cI .i64) b)] (.bool r):=by
 refine Q0 Qvx ?_;unfold Uf at h;rw [cX] at h;refine Zf Z2u ?_;refine iL h fun h=>?_;refine lpH (τ:=Int) (fun s19=>(.any :: .p (.slice 1 (Qc (cI .i64) b)) :: .p (.func (.func 330) [] [])::a8 (a4 (.p (.slice 1 (Qc (cI .i64) a)) :: .p (.int .i64 ((Qc (cI .i64) a).length:Int))::iI s19::a8 (a4 (a2 ([]))))):List AV)) (fun n0 s19=>Xl N a b n0 s19) (0) h fun n0 s19 h=>?_
 first | rw [Xl] at h | simp only [Xl] at h
 rw [cX] at h;refine iR h fun h=>?_;refine xR h fun y21 h=>?_;refine xR h fun y23 h=>?_;refine cP h Q5f p2 fun v25 h=>?_;refine iL h fun h=>?_;show Exists _;exact ⟨(n0,(wrap .i64 (s19+1))),h,Li _,(fun i=>i),Jd⟩
def Vl (_N:Nat) (a:Qn) (b:Qn):Option Bool:=
 some (((a.Topic:List UInt8) == b.Topic)&&(((a.QoS:Int) == b.QoS)&&(((a.NoLocal:Bool) == b.NoLocal)&&(((a.AsPublished:Bool) == b.AsPublished)&&(((a.Handling:Int) == b.Handling)&&true)))))
theorem Q16 {N} {a} {b} {r} (h:Vl N a b=some r):pU 332 [.agg (Qn.cells a),.agg (Qn.cells b)] (.bool r):=by
 refine Q0 Qxk ?_;unfold Vl at h;cases h;exact (.p _)
def Zw (N:Nat) (a:List Qn) (b:List Qn):Nat→Int→Option Bool
 | 0,_=>none
 | n+1,s19=>
  cond (Q4 .lss s19 ((Qc Qn.cells a).length:Int))
  ((idx a s19).bind fun y21=>
  (idx b s19).bind fun y23=>
  (Vl N y21 y23).bind fun v25=>
  cond (!v25)
  (some false)
  (Zw N a b n (wrap .i64 (s19+1))))
  (some true)
def X4 (N:Nat) (a:List Qn) (b:List Qn):Option Bool:=
 cond (Q4 .neq ((Qc Qn.cells a).length:Int) ((Qc Qn.cells b).length:Int))
 (some false)
 (Zw N a b N 0)
theorem Q1v {N} {a} {b} {r} (h:X4 N a b=some r):pU 251 [.slice 5 (Qc Qn.cells a),.slice 5 (Qc Qn.cells b)] (.bool r):=by
 refine Q0 Z4l ?_;unfold X4 at h;rw [cX] at h;refine Zf Qyi ?_;refine iL h fun h=>?_;refine lpH (τ:=Int) (fun s19=>(.any :: .p (.slice 5 (Qc Qn.cells b)) :: .p (.func (.func 332) [] [])::a8 (a4 (.p (.slice 5 (Qc Qn.cells a))::iI ((Qc Qn.cells a).length:Int)::iI s19::a8 (a4 (a2 ([]))))):List AV)) (fun n0 s19=>Zw N a b n0 s19) (0) h fun n0 s19 h=>?_
 first | rw [Zw] at h | simp only [Zw] at h
 rw [cX] at h;refine iR h fun h=>?_;refine xR h fun y21 h=>?_;refine xR h fun y23 h=>?_;refine cP h Q16 (.cons (Frz.agg' p5) (.cons (Frz.agg' p5) .nil)) fun v25 h=>?_;refine iL h fun h=>?_;show Exists _;exact ⟨(n0,(wrap .i64 (s19+1))),h,Li _,(fun i=>i),Jd⟩
def Gk (N:Nat) (a:Q5) (b:Q5):Option Bool:=
 (Q1h N a).bind fun v1=>
 (Q1h N b).bind fun v3=>
 cond (((v1.kind:Int) == v3.kind)&&(((v1.qos:Int) == v3.qos)&&(((v1.id:Int) == v3.id)&&(((v1.alive:Int) == v3.alive)&&(((v1.code:Int) == v3.code)&&(((v1.dup:Bool) == v3.dup)&&(((v1.retain:Bool) == v3.retain)&&(((v1.clean:Bool) == v3.clean)&&(((v1.user:Bool) == v3.user)&&(((v1.pass:Bool) == v3.pass)&&(((v1.will:Bool) == v3.will)&&(((v1.again:Bool) == v3.again)&&(((v1.topic:List UInt8) == v3.topic)&&(((v1.payload:List UInt8) == v3.payload)&&(((v1.client:List UInt8) == v3.client)&&(((v1.name:List UInt8) == v3.name)&&(((v1.word:List UInt8) == v3.word)&&true)))))))))))))))))
 ((Uc N a.Will b.Will).bind fun v6=>
 cond v6
 ((Uf N a.Codes b.Codes).bind fun v9=>
 cond v9
 ((X4 N a.Filters b.Filters).bind fun v12=>
 cond v12
 ((Yx N a.Props b.Props).bind fun v15=>
 some v15)
 (some false))
 (some false))
 (some false))
 (some false)
theorem Q4v {N} {a} {b} {r} (h:Gk N a b=some r):pU 185 [.agg (Q5.cells a),.agg (Q5.cells b)] (.bool r):=by
 refine Q0 Z2i ?_;unfold Gk at h;refine Qv ?_;obtain ⟨v1,hv2,h⟩:=Q54 h;refine Ui (Q41 hv2) (.cons (Frz.agg' (Yf (f8_ (.cons (.p _) .nil)))) .nil) ?_;obtain ⟨v3,hv4,h⟩:=Q54 h;refine Ui (Q41 hv4) (.cons (Frz.agg' (Yf (f8_ (.cons (.p _) .nil)))) .nil) ?_;refine Ql5 (ks := [0,0,0,0,0,2,2,2,2,2,2,2,1,1,1,1,1]) (xs := [.p (.int .i64 v1.kind),.p (.int .i64 v1.qos),.p (.int .i64 v1.id),.p (.int .i64 v1.alive),.p (.int .i64 v1.code),.p (.bool v1.dup),.p (.bool v1.retain),.p (.bool v1.clean),.p (.bool v1.user),.p (.bool v1.pass),.p (.bool v1.will),.p (.bool v1.again),.p (.str v1.topic),.p (.str v1.payload),.p (.str v1.client),.p (.str v1.name),.p (.str v1.word)]) (ys := [.p (.int .i64 v3.kind),.p (.int .i64 v3.qos),.p (.int .i64 v3.id),.p (.int .i64 v3.alive),.p (.int .i64 v3.code),.p (.bool v3.dup),.p (.bool v3.retain),.p (.bool v3.clean),.p (.bool v3.user),.p (.bool v3.pass),.p (.bool v3.will),.p (.bool v3.again),.p (.str v3.topic),.p (.str v3.payload),.p (.str v3.client),.p (.str v3.name),.p (.str v3.word)]) (b:=(((v1.kind:Int) == v3.kind)&&(((v1.qos:Int) == v3.qos)&&(((v1.id:Int) == v3.id)&&(((v1.alive:Int) == v3.alive)&&(((v1.code:Int) == v3.code)&&(((v1.dup:Bool) == v3.dup)&&(((v1.retain:Bool) == v3.retain)&&(((v1.clean:Bool) == v3.clean)&&(((v1.user:Bool) == v3.user)&&(((v1.pass:Bool) == v3.pass)&&(((v1.will:Bool) == v3.will)&&(((v1.again:Bool) == v3.again)&&(((v1.topic:List UInt8) == v3.topic)&&(((v1.payload:List UInt8) == v3.payload)&&(((v1.client:List UInt8) == v3.client)&&(((v1.name:List UInt8) == v3.name)&&(((v1.word:List UInt8) == v3.word)&&true)))))))))))))))))) rfl ?_;refine ifO h (fun hc5 h=>?_) (fun hc5 h=>?_)
 ·obtain ⟨v6,hv7,h⟩:=Q54 h;refine Ui (Q6j hv7) (.cons (Frz.agg' (f4_ (.cons (.p _) .nil))) (.cons (Frz.agg' (f4_ (.cons (.p _) .nil))) .nil)) ?_;refine ifO h (fun hc8 h=>?_) (fun hc8 h=>?_)
  ·obtain ⟨v9,hv10,h⟩:=Q54 h;refine Ui (Q6b hv10) (.cons (.p _) (.cons (.p _) .nil)) ?_;refine ifO h (fun hc11 h=>?_) (fun hc11 h=>?_)
   ·obtain ⟨v12,hv13,h⟩:=Q54 h;refine Ui (Q1v hv13) (.cons (.p _) (.cons (.p _) .nil)) ?_;refine ifO h (fun hc14 h=>?_) (fun hc14 h=>?_)
    ·obtain ⟨v15,hv16,h⟩:=Q54 h;refine Ui (Ju hv16) (.cons (.p _) (.cons (.p _) .nil)) ?_;have hr:=Qk h;subst hr;exact (.p _)
    have hr:=Qk h;subst hr;exact (.p _)
   have hr:=Qk h;subst hr;exact (.p _)
  have hr:=Qk h;subst hr;exact (.p _)
 have hr:=Qk h;subst hr;exact (.p _)
def W9 (N:Nat) (n_0:Int) (size:Int):Nat→Int→(List Int)→Option (List UInt8)
 | 0,_,_=>none
 | n+1,s14,l15=>
  cond (Q4 .lss s14 (ifB (decide (16<size)) 16 size))
  (cond (Q4 .lss s14 8)
  (cond (decide (0≤(wrap .u64 (wrap .i64 (8 * s14))))) ((idx (l15:List Int) (wrap .i64 ((wrap .i64 ((ifB (decide (16<size)) 16 size) - 1)) - s14))).bind fun y19=>
  W9 N n_0 size n (wrap .i64 (s14+1)) ((l15:List Int).set (Int.toNat (wrap .i64 ((wrap .i64 ((ifB (decide (16<size)) 16 size) - 1)) - s14))) (wrap .u8 (Qiz .u64 n_0 (wrap .u64 (wrap .i64 (8 * s14))))))) none)
  (W9 N n_0 size n (wrap .i64 (s14+1)) l15))
  (some (l15.map fun n=>UInt8.ofNat n.toNat))
def V0 (N:Nat) (n_0:Int) (size:Int):Option (List UInt8):=
 cond (Q4 .leq size 0)
 (some [])
 (cond (decide (0≤(ifB (decide (16<size)) 16 size))&&decide ((ifB (decide (16<size)) 16 size)≤(ifB (decide (16<size)) 16 size))&&decide ((ifB (decide (16<size)) 16 size) * 1≤1099511627776)) (W9 N n_0 size N 0 (List.replicate ((ifB (decide (16<size)) 16 size):Int).toNat (0:Int))) none)
theorem Q1q {N} {n_0} {size} {r} (h:V0 N n_0 size=some r):pU 136 [.int .u64 n_0,.int .i64 size] (.str r):=by
 refine Q0 Z3q ?_;unfold V0 at h;rw [cX] at h;refine iL h fun h=>?_;refine kU h fun h=>?_;refine Qsz (c:=(cI .u8)) (0:Int) rfl ?_;refine lpC (τ:=Int×(List Int)) (fun ⟨s14,l15⟩=>(iW n_0 :: .p (.int .i64 (ifB (decide (16<size)) 16 size))::a2 (.any :: .slice 1 1 0 l15.length::a4 (a2 (.any :: .p (.int .i64 (ifB (decide (16<size)) 16 size))::iI s14::a16 (a2 (.any :: []))))):List AV)) (fun ⟨_,l15⟩=>(.dead :: .cells (Uz (cI .u8) l15) :: []:List AObj)) (fun n0 ⟨s14,l15⟩=>W9 N n_0 size n0 s14 l15) (0,(List.replicate ((ifB (decide (16<size)) 16 size):Int).toNat (0:Int))) h (rho [0,0]) Jd fun n0 ⟨s14,l15⟩ h=>?_
 first | rw [W9] at h | simp only [W9] at h
 rw [cX] at h;apply iU h<;>intro h
 ·apply iU h<;>intro h
  ·refine kU h fun h=>?_;obtain ⟨y19,hy20,h⟩:=Q54 h;refine Qcv (Qog hy20 sd) ?_;refine Qcv (Qla (c:=(cI .u8)) (e:=1) (fun _=>rfl) hy20 (off:=0) (by omega) rfl (by decide)) ?_
   refine Qk5 (c:=(cI .u8)) (e:=1) (fun _=>rfl) hy20 (wrap .u8 (Qiz .u64 n_0 (wrap .u64 (wrap .i64 (8 * s14))))) (off:=0) (by first | omega | (simp only [Qpz,orI,Qw9,Qkt,Qmk,Qiz];omega)) rfl (by simp) ?_
   show Exists _;exact ⟨(n0,(wrap .i64 (s14+1)),((l15:List Int).set (Int.toNat (wrap .i64 ((wrap .i64 ((ifB (decide (16<size)) 16 size) - 1)) - s14))) (wrap .u8 (Qiz .u64 n_0 (wrap .u64 (wrap .i64 (8 * s14))))))),h,Li _,(fun i=>i),Jd⟩
  show Exists _;exact ⟨(n0,(wrap .i64 (s14+1)),l15),h,Li _,(fun i=>i),Jd⟩
 refine Qgp (l:=l15) (n:=l15.length) sd ?_;cases h;exact (.p _)
def Uw (N:Nat) (s_0:List UInt8):Option (List UInt8):=
 (V0 N (wrap .u64 (s_0.length:Int)) 2).bind fun v1=>
 cond (Nat.ble (v1.length+s_0.length) 4611686018427387904) (some (v1++s_0)) none
theorem Q5g {N} {s_0} {r} (h:Uw N s_0=some r):pU 377 [.str s_0] (.str r):=by
 refine Q0 Z1i ?_;unfold Uw at h;refine cP h Q1q p2 fun v1 h=>?_;refine kU h fun h=>?_;cases h;exact (.p _)
def Jc (_N:Nat) (n_0:Int):Option Bool:=
 cond (Q4 .geq n_0 0)
 (some (Q4 .leq n_0 268435455))
 (some false)
theorem Q3x {N} {n_0} {r} (h:Jc N n_0=some r):pU 217 [.int .i64 n_0] (.bool r):=by
 refine Q0 Qww ?_;unfold Jc at h;rw [cX] at h;exact iB h
def X7 (N:Nat):Nat→Int→(List Int)→Option ((List UInt8)×Int)
 | 0,_,_=>none
 | n+1,n9,l10=>
  cond (Q4 .geq n9 128)
  (cond (Nat.ble ((l10.length+1+4096) * 1) 17592186044416) (X7 N n (wrap .i64 ((n9:Int).tdiv 128)) (l10 ++ [(orI .u8 (wrap .u8 ((n9:Int).tmod 128)) 128)])) none)
  (cond (Nat.ble ((l10.length+1+4096) * 1) 17592186044416) (some (((l10 ++ [(wrap .u8 n9)]).map fun n=>UInt8.ofNat n.toNat),0)) none)
def Vt (N:Nat) (n_0:Int):Option ((List UInt8)×Int):=
 (Jc N n_0).bind fun v1=>
 cond (!v1)
 (some ([],2))
 (X7 N N n_0 [])
theorem Q22 {N} {n_0} {r} (h:Vt N n_0=some r):pU 135 [.int .i64 n_0] (.tuple [.str r.1,.int .i64 r.2]):=by
 refine Q0 Z4h ?_;unfold Vt at h;refine cP h Q3x p1 fun v1 h=>?_;refine iL2 h fun h=>?_;refine lpA (τ:=Int×(List Int)) (fun ⟨n9,l10⟩=>(iI n9::a2 (.any :: .slice 1 0 0 l10.length::a16 (a4 ([]))):List AV)) (fun ⟨_,l10⟩=>(.cells (Uz (cI .u8) l10) :: []:List AObj)) (fun n0 ⟨n9,l10⟩=>X7 N n0 n9 l10) (n_0,[]) h fun n0 ⟨n9,l10⟩ h=>?_
 first | rw [X7] at h | simp only [X7] at h
 rw [cX] at h;apply iU h<;>intro h
 ·obtain ⟨hk12,h⟩:=Qi2 h;refine Qcv (Q02 (c:=(cI .u8)) (e:=1) (fun _=>rfl) sd hk12) ?_;refine Q7t (c:=(cI .u8)) [(orI .u8 (wrap .u8 ((n9:Int).tmod 128)) 128)] rfl ?_;show Exists _;exact ⟨(n0,(wrap .i64 ((n9:Int).tdiv 128)),(l10 ++ [(orI .u8 (wrap .u8 ((n9:Int).tmod 128)) 128)])),h,Li _,(rho [2]),Jd⟩
 obtain ⟨hk13,h⟩:=Qi2 h;refine Qcv (Q02 (c:=(cI .u8)) (e:=1) (fun _=>rfl) sd hk13) ?_;refine Q7t (c:=(cI .u8)) [(wrap .u8 n9)] rfl ?_;refine Qgp (l:=(l10 ++ [(wrap .u8 n9)])) (n:=(l10.length+1)) sd ?_;obtain rfl:=Qk h;exact u2
def Q08:List (Int×Qx) := [(1,(⟨1,65544,0,1⟩:Qx)),(2,(⟨3,65544,0,4294967295⟩:Qx)),(3,(⟨5,65544,0,0⟩:Qx)),(8,(⟨5,65544,0,0⟩:Qx)),(9,(⟨6,65544,0,0⟩:Qx)),(11,(⟨4,264,1,268435455⟩:Qx)),(17,(⟨3,16390,0,4294967295⟩:Qx)),(18,(⟨5,4,0,0⟩:Qx)),(19,(⟨2,4,0,65535⟩:Qx)),(21,(⟨5,32774,0,0⟩:Qx)),(22,(⟨6,32774,0,0⟩:Qx)),(23,(⟨1,2,0,1⟩:Qx)),(24,(⟨3,65536,0,4294967295⟩:Qx)),(25,(⟨1,2,0,1⟩:Qx)),(26,(⟨5,4,0,0⟩:Qx)),(28,(⟨5,16388,0,0⟩:Qx)),(31,(⟨5,51956,0,0⟩:Qx)),(33,(⟨2,6,1,65535⟩:Qx)),(34,(⟨2,6,0,65535⟩:Qx)),(35,(⟨2,8,1,65535⟩:Qx)),(36,(⟨1,4,0,1⟩:Qx)),(37,(⟨1,4,0,1⟩:Qx)),(38,(⟨7,118782,0,0⟩:Qx)),(39,(⟨3,6,1,4294967295⟩:Qx)),(40,(⟨1,4,0,1⟩:Qx)),(41,(⟨1,4,0,1⟩:Qx)),(42,(⟨1,4,0,1⟩:Qx))]
theorem Q9u:pU 253 [] (.pmap (Qrg (fun v => .agg (Qx.cells v)) Q08)):=Q47 Qku (N:=2000) (d:=60) (by kernel_rfl)
def Ji (N:Nat) (l:List Qj):Nat→Option ((List UInt8)×Int)
 | 0=>none
 | n+1=>
  cond (Q4 .lss 0 ((Qc Qj.cells l).length:Int))
  ((idx l 0).bind fun y8=>
  optC (Qau Q08 y8.ID) (fun m10=>
  none)
  (none))
  ((Vt N 0).bind fun v12=>
  cond (Q4 .neq v12.2 0)
  (some ([],4))
  (cond (Nat.ble (v12.1.length+([]:List UInt8).length) 4611686018427387904) (some ((v12.1 ++ []),0)) none))
def U0 (N:Nat) (kind:Int) (l:List Qj):Option ((List UInt8)×Int):=
 cond (Q4 .gtr ((Qc Qj.cells l).length:Int) 1000)
 (some ([],4))
 (Ji N l N)
theorem Q0k {N} {kind} {l} {r} (h:U0 N kind l=some r):pU 186 [.int .i64 kind,.slice 4 (Qc Qj.cells l)] (.tuple [.str r.1,.int .i64 r.2]):=by
 refine Q0 Z2s ?_;unfold U0 at h;rw [cX] at h;refine iL2 h fun h=>?_;refine Q21 Q9u .nil ?_;refine lpH (τ:=Unit) (fun _=>(iI kind::a4 (.any :: .p (.pmap (Qrg (fun v => .agg (Qx.cells v)) Q08)) :: .ptr 0 0 :: .p .nilSlice::a8 (a2 (.p (.slice 4 (Qc Qj.cells l))::iI ((Qc Qj.cells l).length:Int)::iI 0::a16 (a16 (a8 (a2 (.any :: []))))))):List AV)) (fun n0 ⟨⟩=>Ji N l n0) () h fun n0 ⟨⟩ h=>?_
 first | rw [Ji] at h | simp only [Ji] at h
 rw [cX] at h;apply iU h<;>intro h
 ·refine xR h fun y8 h=>?_;refine Qnh h (fun m10 hm11 h=>?_) (fun hm11 h=>?_)
  ·first | (cases h;done) | (simp [Z6] at h;done)
  first | (cases h;done) | (simp [Z6] at h;done)
 refine Zf Z34 ?_;refine dF ?_;refine cP h Q22 p1 fun v12 h=>?_;refine iL2 h fun h=>?_;refine kU h fun h=>?_;obtain rfl:=Qk h;exact u2
def Ve (N:Nat) (kind:Int) (l:List Qj):Option Int:=
 (U0 N kind l).bind fun v1=>
 some v1.2
theorem Q10 {N} {kind} {l} {r} (h:Ve N kind l=some r):pU 111 [.int .i64 kind,.slice 4 (Qc Qj.cells l)] (.int .i64 r):=by
 refine Q0 Z0s ?_;unfold Ve at h;refine cP h Q0k p2 fun v1 h=>?_;cases h;exact (.p _)
def Ut (N:Nat) (s_0:List UInt8):Option ((List UInt8)×Int):=
 (U1 N s_0).bind fun v1=>
 cond (!v1)
 (some ([],6))
 ((Uw N s_0).bind fun v4=>
 some (v4,0))
theorem Q77 {N} {s_0} {r} (h:Ut N s_0=some r):pU 309 [.str s_0] (.tuple [.str r.1,.int .i64 r.2]):=by
 refine Q0 Qyl ?_;unfold Ut at h;refine cP h Q1g p1 fun v1 h=>?_;refine iL2 h fun h=>?_;refine cP h Q5g p1 fun v4 h=>?_;obtain rfl:=Qk h;exact u2
def Jp (_N:Nat) (version:Int):Option Bool:=
 cond (Q4 .eql version 4)
 (some true)
 (some (Q4 .eql version 5))
theorem Q6d {N} {version} {r} (h:Jp N version=some r):pU 322 [.int .i64 version] (.bool r):=by
 refine Q0 Z47 ?_;unfold Jp at h;rw [cX] at h;exact iB h
def Wa (_N:Nat) (is:Bool) (e:Int):Option Int:=
 cond is
 (some e)
 (some 0)
theorem Wc {N} {is} {e} {r} (h:Wa N is e=some r):pU 386 [.bool is,.int .i64 e] (.int .i64 r):=by
 refine Q0 Qzj ?_;unfold Wa at h;exact iB h
def Q1c (_N:Nat) (version:Int):Option Bool:=
 cond (Q4 .eql version 4)
 (some true)
 (some (Q4 .eql version 5))
theorem Q3z {N} {version} {r} (h:Q1c N version=some r):pU 131 [.int .i64 version] (.bool r):=by
 refine Q0 Qws ?_;unfold Q1c at h;rw [cX] at h;exact iB h
def Q1a (_N:Nat) (version:Int) (kind:Int):Option Bool:=
 cond (Q4 .eql version 5)
 (cond (Q4 .geq kind 1)
 (some (Q4 .leq kind 15))
 (some false))
 (cond (Q4 .geq kind 1)
 (some (Q4 .leq kind 14))
 (some false))
theorem Q45 {N} {version} {kind} {r} (h:Q1a N version kind=some r):pU 132 [.int .i64 version,.int .i64 kind] (.bool r):=by
 refine Q0 Qxi ?_;unfold Q1a at h;rw [cX] at h;apply iU h<;>intro h
 ·exact iB h
 exact iB h
def Q1m (_N:Nat) (kind:Int):Option Int:=
 cond (Q4 .eql kind 6)
 (some 2)
 (cond (Q4 .eql kind 8)
 (some 2)
 (cond (Q4 .eql kind 10)
 (some 2)
 (some 0)))
theorem Q43 {N} {kind} {r} (h:Q1m N kind=some r):pU 133 [.int .i64 kind] (.int .i64 r):=by
 refine Q0 Z60 ?_;unfold Q1m at h;rw [cX] at h;refine ifO h (fun hc1 h=>?_) (fun hc1 h=>?_)
 ·refine ifT hc1 ?_;cases h;exact (.p _)
 refine ifO h (fun hc2 h=>?_) (fun hc2 h=>?_)
 ·refine ifT hc2 ?_;cases h;exact (.p _)
 exact iB h
def Vd (N:Nat) (version:Int) (p:Q5):Option (Int×Int):=
 (Q1c N version).bind fun v1=>
 cond (!v1)
 (some (0,2))
 ((Q1a N version p.Kind).bind fun v4=>
 cond (!v4)
 (some (0,8))
 (cond (Q4 .neq p.Kind 3)
 ((Q1m N p.Kind).bind fun v8=>
 some (v8,0))
 (cond (Q4 .lss p.QoS 0)
 (some (0,7))
 (cond (Q4 .gtr p.QoS 2)
 (some (0,7))
 (cond (Q4 .eql p.QoS 0)
 (cond p.Dup
 (some (0,7))
 (cond p.Retain
 (some ((orI .i64 (wrap .i64 (p.QoS * 2)) 1),0))
 (some ((wrap .i64 (p.QoS * 2)),0))))
 (cond p.Retain
 (cond p.Dup
 (some ((orI .i64 (orI .i64 (wrap .i64 (p.QoS * 2)) 1) 8),0))
 (some ((orI .i64 (wrap .i64 (p.QoS * 2)) 1),0)))
 (cond p.Dup
 (some ((orI .i64 (wrap .i64 (p.QoS * 2)) 8),0))
 (some ((wrap .i64 (p.QoS * 2)),0)))))))))
theorem Q13 {N} {version} {p} {r} (h:Vd N version p=some r):pU 68 [.int .i64 version,.agg (Q5.cells p)] (.tuple [.int .i64 r.1,.int .i64 r.2]):=by
 refine Q0 k68 ?_;unfold Vd at h;rw [cX] at h;refine cP h Q3z p1 fun v1 h=>?_;refine iL2 h fun h=>?_;refine cP h Q45 p2 fun v4 h=>?_;refine iL2 h fun h=>?_;apply iU h<;>intro h
 ·refine cP h Q43 p1 fun v8 h=>?_;obtain rfl:=Qk h;exact u2
 refine iL2 h fun h=>?_;refine iL2 h fun h=>?_;apply iU h<;>intro h
 ·refine oL2 h fun hc13 h=>?_;apply iU h<;>intro h
  ·refine ifF hc13 ?_;obtain rfl:=Qk h;exact u2
  refine ifF hc13 ?_;obtain rfl:=Qk h;exact u2
 apply iU h<;>intro h
 ·exact iB2 h
 exact iB2 h
def Wm (N:Nat) (version:Int) (p:Q5):Option Bool:=
 (Gk N p (⟨p.Kind,p.Dup,p.Retain,p.QoS,p.ID,p.Topic,p.Payload,false,0,[],false,[],false,[],false,(⟨[],[],0,false,[]⟩:W7),false,0,[],[],p.Props⟩:Q5)).bind fun v1=>
 cond (!v1)
 (some false)
 (cond (Q4 .eql version 4)
 (cond (Q4 .gtr ((Qc Qj.cells p.Props).length:Int) 0)
 (some false)
 (cond (Q4 .eql p.QoS 0)
 (some (Q4 .eql p.ID 0))
 (cond (Q4 .gtr p.ID 0)
 (some (Q4 .lss p.ID 65536))
 (some false))))
 (cond (Q4 .eql p.QoS 0)
 (some (Q4 .eql p.ID 0))
 (cond (Q4 .gtr p.ID 0)
 (some (Q4 .lss p.ID 65536))
 (some false))))
theorem Q0j {N} {version} {p} {r} (h:Wm N version p=some r):pU 389 [.int .i64 version,.agg (Q5.cells p)] (.bool r):=by
 refine Q0 Z4c ?_;unfold Wm at h;rw [cX] at h;refine cP h Q4v (.cons (Frz.agg' (Yf (f2_ (f1_ (.cons (.p _) p5))))) (.cons (Frz.agg' (Yf (f2_ (f1_ (.cons (.nil _) (f2_ (.cons (.nil _) (.cons (.nil _) p1)))))))) .nil)) fun v1 h=>?_;refine iL h fun h=>?_;apply iU h<;>intro h
 ·refine iL h fun h=>?_;refine iL h fun h=>?_;exact iB h
 refine iL h fun h=>?_;exact iB h
def Jl (N:Nat) (l:List Qj) (id:Int):Nat→Int→Option (Qj×Bool)
 | 0,_=>none
 | n+1,s10=>
  cond (Q4 .lss s10 ((Qc Qj.cells l).length:Int))
  ((idx l s10).bind fun y12=>
  cond (Q4 .eql y12.ID id)
  (some (y12,true))
  (Jl N l id n (wrap .i64 (s10+1))))
  (some ((⟨0,0,[],[]⟩:Qj),false))
def Q7d (N:Nat) (l:List Qj) (id:Int):Option (Qj×Bool):=
 Jl N l id N 0
theorem Qcz {N} {l} {id} {r} (h:Q7d N l id=some r):pU 473 [.slice 4 (Qc Qj.cells l),.int .i64 id] (.tuple [.agg (Qj.cells r.1),.bool r.2]):=by
 refine Q0 Qzr ?_;unfold Q7d at h;refine lpH (τ:=Int) (fun s10=>(.any::iI id :: .any :: .any :: .ptr 0 0::a2 (.any :: .p (.slice 4 (Qc Qj.cells l))::iI ((Qc Qj.cells l).length:Int)::iI s10::a8 (a2 ([]))):List AV)) (fun n0 s10=>Jl N l id n0 s10) (0) h fun n0 s10 h=>?_
 first | rw [Jl] at h | simp only [Jl] at h
 rw [cX] at h;apply iU h<;>intro h
 ·refine xR h fun y12 h=>?_;apply iU h<;>intro h
  ·obtain rfl:=Qk h;exact (Frz.tuple' (.cons q4 p1))
  show Exists _;exact ⟨(n0,(wrap .i64 (s10+1))),h,Li _,(fun i=>i),Jd⟩
 obtain rfl:=Qk h;exact (Frz.tuple' (.cons q4 p1))
def Q0p (N:Nat) (p:Q5):Option (Int×Bool):=
 (Q7d N p.Props 35).bind fun v1=>
 some ((wrap .i64 v1.1.N'),v1.2)
theorem Q6k {N} {p} {r} (h:Q0p N p=some r):pU 440 [.agg (Q5.cells p)] (.tuple [.int .i64 r.1,.bool r.2]):=by
 refine Q0 Z2j ?_;unfold Q0p at h;refine cP h Qcz p2 fun v1 h=>?_;obtain rfl:=Qk h;exact u2
def Vb (N:Nat) (version:Int) (p:Q5):Option Bool:=
 (Q0p N p).bind fun v1=>
 (Gt N p.Topic).bind fun v3=>
 cond v3
 (some true)
 (cond (Q4 .eql version 5)
 (cond v1.2
 (some (G0 .eql p.Topic []))
 (some false))
 (some false))
theorem Q1e {N} {version} {p} {r} (h:Vb N version p=some r):pU 391 [.int .i64 version,.agg (Q5.cells p)] (.bool r):=by
 refine Q0 Z26 ?_;unfold Vb at h;rw [cX,cY] at h;refine cP h Q6k (.cons (Frz.agg' (Yf (f2_ (f1_ (.cons (.p _) p5))))) .nil) fun v1 h=>?_;refine cP h Q48 p1 fun v3 h=>?_;refine iL h fun h=>?_;refine iR h fun h=>?_;exact iB h
def Vz (N:Nat) (version:Int) (p:Q5):Option Int:=
 (Jp N version).bind fun v1=>
 cond (!v1)
 ((Wa N true 2).bind fun v4=>
 cond (Q4 .neq v4 0)
 (some v4)
 ((Vd N version p).bind fun v7=>
 cond (Q4 .neq v7.2 0)
 (some v7.2)
 ((Wm N version p).bind fun v10=>
 (Wa N (!v10) 2).bind fun v12=>
 cond (Q4 .neq v12 0)
 (some v12)
 ((Vb N version p).bind fun v15=>
 (Wa N (!v15) 10).bind fun v17=>
 cond (Q4 .neq v17 0)
 (some v17)
 ((Ve N 3 p.Props).bind fun v20=>
 cond (Q4 .neq v20 0)
 (some v20)
 (some 0))))))
 ((Wa N (Q4 .neq p.Kind 3) 2).bind fun v23=>
 cond (Q4 .neq v23 0)
 (some v23)
 ((Vd N version p).bind fun v26=>
 cond (Q4 .neq v26.2 0)
 (some v26.2)
 ((Wm N version p).bind fun v29=>
 (Wa N (!v29) 2).bind fun v31=>
 cond (Q4 .neq v31 0)
 (some v31)
 ((Vb N version p).bind fun v34=>
 (Wa N (!v34) 10).bind fun v36=>
 cond (Q4 .neq v36 0)
 (some v36)
 ((Ve N 3 p.Props).bind fun v39=>
 cond (Q4 .neq v39 0)
 (some v39)
 (some 0))))))
theorem Q6a {N} {version} {p} {r} (h:Vz N version p=some r):pU 321 [.int .i64 version,.agg (Q5.cells p)] (.int .i64 r):=by
 refine Q0 Z1a ?_;unfold Vz at h;rw [cX] at h;refine Q5b 7 ?_;refine dT ?_;refine Zf Qyq ?_;refine cP h Q6d p1 fun v1 h=>?_;apply iU h<;>intro h
 ·refine cP h Wc p2 fun v4 h=>?_;refine iL h fun h=>?_;refine dT ?_;refine Zf Qt5 ?_;refine cP h Q13 (.cons (.p _) (.cons (Frz.agg' (Yf (f2_ (f1_ (.cons (.p _) p5))))) .nil)) fun v7 h=>?_;refine iL h fun h=>?_;refine dT ?_;refine Zf Qsa ?_;refine cP h Q0j (.cons (.p _) (.cons (Frz.agg' (Yf (f2_ (f1_ (.cons (.p _) p5))))) .nil)) fun v10 h=>?_;refine cP h Wc p2 fun v12 h=>?_;refine iL h fun h=>?_;refine dT ?_;refine Zf Qs5 ?_;refine cP h Q1e (.cons (.p _) (.cons (Frz.agg' (Yf (f2_ (f1_ (.cons (.p _) p5))))) .nil)) fun v15 h=>?_;refine cP h Wc p2 fun v17 h=>?_;refine iL h fun h=>?_;refine dT ?_;refine Zf Qsh ?_;refine cP h Q10 p2 fun v20 h=>?_;refine iL h fun h=>?_;refine dF ?_;cases h;exact (.p _)
 refine cP h Wc p2 fun v23 h=>?_;refine iL h fun h=>?_;refine dT ?_;refine Zf Qt5 ?_;refine cP h Q13 (.cons (.p _) (.cons (Frz.agg' (Yf (f2_ (f1_ (.cons (.p _) p5))))) .nil)) fun v26 h=>?_;refine iL h fun h=>?_;refine dT ?_;refine Zf Qsa ?_;refine cP h Q0j (.cons (.p _) (.cons (Frz.agg' (Yf (f2_ (f1_ (.cons (.p _) p5))))) .nil)) fun v29 h=>?_;refine cP h Wc p2 fun v31 h=>?_;refine iL h fun h=>?_;refine dT ?_;refine Zf Qs5 ?_;refine cP h Q1e (.cons (.p _) (.cons (Frz.agg' (Yf (f2_ (f1_ (.cons (.p _) p5))))) .nil)) fun v34 h=>?_;refine cP h Wc p2 fun v36 h=>?_;refine iL h fun h=>?_;refine dT ?_;refine Zf Qsh ?_;refine cP h Q10 p2 fun v39 h=>?_;refine iL h fun h=>?_;refine dF ?_;cases h;exact (.p _)
def Ur (N:Nat) (version:Int) (p:Q5):Option ((List UInt8)×Int):=
 (Vz N version p).bind fun v1=>
 cond (Q4 .neq v1 0)
 (some ([],v1))
 ((Ut N p.Topic).bind fun v4=>
 cond (Q4 .neq p.QoS 0)
 ((V0 N (wrap .u64 p.ID) 2).bind fun v7=>
 cond (Nat.ble (v4.1.length+v7.length) 4611686018427387904) (cond (Q4 .eql version 5)
 ((U0 N p.Kind p.Props).bind fun v11=>
 cond (Nat.ble ((v4.1++v7).length+v11.1.length) 4611686018427387904) (cond (Nat.ble (((v4.1++v7)++v11.1).length+p.Payload.length) 4611686018427387904) (some ((((v4.1++v7)++v11.1)++p.Payload),0)) none) none)
 (cond (Nat.ble ((v4.1++v7).length+p.Payload.length) 4611686018427387904) (some (((v4.1++v7)++p.Payload),0)) none)) none)
 (cond (Q4 .eql version 5)
 ((U0 N p.Kind p.Props).bind fun v17=>
 cond (Nat.ble (v4.1.length+v17.1.length) 4611686018427387904) (cond (Nat.ble ((v4.1++v17.1).length+p.Payload.length) 4611686018427387904) (some (((v4.1++v17.1)++p.Payload),0)) none) none)
 (cond (Nat.ble (v4.1.length+p.Payload.length) 4611686018427387904) (some ((v4.1++p.Payload),0)) none)))
theorem Q72 {N} {version} {p} {r} (h:Ur N version p=some r):pU 243 [.int .i64 version,.agg (Q5.cells p)] (.tuple [.str r.1,.int .i64 r.2]):=by
 refine Q0 Qzi ?_;unfold Ur at h;rw [cX] at h;refine cP h Q6a (.cons (.p _) (.cons (Frz.agg' (Yf (f2_ (f1_ (.cons (.p _) p5))))) .nil)) fun v1 h=>?_;refine iL2 h fun h=>?_;refine cP h Q77 p1 fun v4 h=>?_;apply iU h<;>intro h
 ·refine cP h Q1q p2 fun v7 h=>?_;refine kU h fun h=>?_;apply iU h<;>intro h
  ·refine cP h Q0k p2 fun v11 h=>?_;refine kU h fun h=>?_;refine kU h fun h=>?_;obtain rfl:=Qk h;exact u2
  refine kU h fun h=>?_;obtain rfl:=Qk h;exact u2
 apply iU h<;>intro h
 ·refine cP h Q0k p2 fun v17 h=>?_;refine kU h fun h=>?_;refine kU h fun h=>?_;obtain rfl:=Qk h;exact u2
 refine kU h fun h=>?_;obtain rfl:=Qk h;exact u2
def Yv (N:Nat) (d:Gf):Option ((List UInt8)×Int):=
 (Ur N d.version d.p).bind fun v1=>
 some (v1.1,v1.2)
theorem Jz {N} {d} {r} (h:Yv N d=some r):pU 178 [.agg (Gf.cells d)] (.tuple [.str r.1,.int .i64 r.2]):=by
 refine Q0 Qwl ?_;unfold Yv at h;refine cP h Q72 (.cons (.p _) (.cons (Frz.agg' (Yf (f2_ (f1_ (.cons (.p _) p5))))) .nil)) fun v1 h=>?_;obtain rfl:=Qk h;exact u2
theorem Q1b:pU 92 [] (.pmap [(.int .i64 1,.agg [.func (.func 170) [] [],.func (.func 171) [] []]),(.int .i64 2,.agg [.func (.func 170) [] [],.func (.func 171) [] []]),(.int .i64 3,.agg [.func (.func 178) [] [],.func (.func 179) [] []]),(.int .i64 4,.agg [.func (.func 172) [] [],.func (.func 173) [] []]),(.int .i64 5,.agg [.func (.func 172) [] [],.func (.func 173) [] []]),(.int .i64 6,.agg [.func (.func 172) [] [],.func (.func 173) [] []]),(.int .i64 7,.agg [.func (.func 172) [] [],.func (.func 173) [] []]),(.int .i64 8,.agg [.func (.func 174) [] [],.func (.func 175) [] []]),(.int .i64 9,.agg [.func (.func 174) [] [],.func (.func 175) [] []]),(.int .i64 10,.agg [.func (.func 174) [] [],.func (.func 175) [] []]),(.int .i64 11,.agg [.func (.func 174) [] [],.func (.func 175) [] []]),(.int .i64 12,.agg [.func (.func 176) [] [],.func (.func 177) [] []]),(.int .i64 13,.agg [.func (.func 176) [] [],.func (.func 177) [] []]),(.int .i64 14,.agg [.func (.func 176) [] [],.func (.func 177) [] []]),(.int .i64 15,.agg [.func (.func 176) [] [],.func (.func 177) [] []])]):=Q47 Qku (N:=2000) (d:=60) (by kernel_rfl)
def Q11 (N:Nat) (version:Int) (p:Q5):Option ((List UInt8)×Int):=
 cond (Q4 .neq version 4)
 (cond (Q4 .neq version 5)
 (some ([],2))
 (cond ((p.Kind:Int) == 1)
 (none)
 (cond ((p.Kind:Int) == 2)
 (none)
 (cond ((p.Kind:Int) == 3)
 ((Yv N (⟨version,p⟩:Gf)).bind fun v6=>
 cond (Q4 .neq v6.2 0)
 (some ([],v6.2))
 (cond (Q4 .gtr (v6.1.length:Int) 268435455)
 (some ([],4))
 (some (v6.1,0))))
 (cond ((p.Kind:Int) == 4)
 (none)
 (cond ((p.Kind:Int) == 5)
 (none)
 (cond ((p.Kind:Int) == 6)
 (none)
 (cond ((p.Kind:Int) == 7)
 (none)
 (cond ((p.Kind:Int) == 8)
 (none)
 (cond ((p.Kind:Int) == 9)
 (none)
 (cond ((p.Kind:Int) == 10)
 (none)
 (cond ((p.Kind:Int) == 11)
 (none)
 (cond ((p.Kind:Int) == 12)
 (none)
 (cond ((p.Kind:Int) == 13)
 (none)
 (cond ((p.Kind:Int) == 14)
 (none)
 (cond ((p.Kind:Int) == 15)
 (cond (Q4 .eql version 4)
 (some ([],8))
 (none))
 (some ([],8))))))))))))))))))
 (cond ((p.Kind:Int) == 1)
 (none)
 (cond ((p.Kind:Int) == 2)
 (none)
 (cond ((p.Kind:Int) == 3)
 ((Yv N (⟨version,p⟩:Gf)).bind fun v26=>
 cond (Q4 .neq v26.2 0)
 (some ([],v26.2))
 (cond (Q4 .gtr (v26.1.length:Int) 268435455)
 (some ([],4))
 (some (v26.1,0))))
 (cond ((p.Kind:Int) == 4)
 (none)
 (cond ((p.Kind:Int) == 5)
 (none)
 (cond ((p.Kind:Int) == 6)
 (none)
 (cond ((p.Kind:Int) == 7)
 (none)
 (cond ((p.Kind:Int) == 8)
 (none)
 (cond ((p.Kind:Int) == 9)
 (none)
 (cond ((p.Kind:Int) == 10)
 (none)
 (cond ((p.Kind:Int) == 11)
 (none)
 (cond ((p.Kind:Int) == 12)
 (none)
 (cond ((p.Kind:Int) == 13)
 (none)
 (cond ((p.Kind:Int) == 14)
 (none)
 (cond ((p.Kind:Int) == 15)
 (cond (Q4 .eql version 4)
 (some ([],8))
 (none))
 (some ([],8)))))))))))))))))
theorem Q4o {N} {version} {p} {r} (h:Q11 N version p=some r):pU 52 [.int .i64 version,.agg (Q5.cells p)] (.tuple [.str r.1,.int .i64 r.2]):=by
 refine Q0 k52 ?_;unfold Q11 at h;rw [cX] at h;apply iU h<;>intro h
 ·refine iL2 h fun h=>?_;refine Qv ?_;refine Ui Q1b .nil ?_;refine Wl h (fun hc3 h=>?_) (fun hc3 h=>?_)
  ·refine ifF (Q5l hc3 (by decide)) ?_
   first | (cases h;done) | (simp [Z6] at h;done)
  refine Wl h (fun hc4 h=>?_) (fun hc4 h=>?_)
  ·refine ifF (Q5l hc4 (by decide)) ?_
   first | (cases h;done) | (simp [Z6] at h;done)
  refine Wl h (fun hc5 h=>?_) (fun hc5 h=>?_)
  ·refine ifF (Q5l hc5 (by decide)) ?_;refine cP h Jz (.cons (Frz.agg' (Yf (f4_ (.cons (.p _) p5)))) .nil) fun v6 h=>?_;refine iL2 h fun h=>?_;exact iB2 h
  refine Wl h (fun hc10 h=>?_) (fun hc10 h=>?_)
  ·refine ifF (Q5l hc10 (by decide)) ?_
   first | (cases h;done) | (simp [Z6] at h;done)
  refine Wl h (fun hc11 h=>?_) (fun hc11 h=>?_)
  ·refine ifF (Q5l hc11 (by decide)) ?_
   first | (cases h;done) | (simp [Z6] at h;done)
  refine Wl h (fun hc12 h=>?_) (fun hc12 h=>?_)
  ·refine ifF (Q5l hc12 (by decide)) ?_
   first | (cases h;done) | (simp [Z6] at h;done)
  refine Wl h (fun hc13 h=>?_) (fun hc13 h=>?_)
  ·refine ifF (Q5l hc13 (by decide)) ?_
   first | (cases h;done) | (simp [Z6] at h;done)
  refine Wl h (fun hc14 h=>?_) (fun hc14 h=>?_)
  ·refine ifF (Q5l hc14 (by decide)) ?_
   first | (cases h;done) | (simp [Z6] at h;done)
  refine Wl h (fun hc15 h=>?_) (fun hc15 h=>?_)
  ·refine ifF (Q5l hc15 (by decide)) ?_
   first | (cases h;done) | (simp [Z6] at h;done)
  refine Wl h (fun hc16 h=>?_) (fun hc16 h=>?_)
  ·refine ifF (Q5l hc16 (by decide)) ?_
   first | (cases h;done) | (simp [Z6] at h;done)
  refine Wl h (fun hc17 h=>?_) (fun hc17 h=>?_)
  ·refine ifF (Q5l hc17 (by decide)) ?_
   first | (cases h;done) | (simp [Z6] at h;done)
  refine Wl h (fun hc18 h=>?_) (fun hc18 h=>?_)
  ·refine ifF (Q5l hc18 (by decide)) ?_
   first | (cases h;done) | (simp [Z6] at h;done)
  refine Wl h (fun hc19 h=>?_) (fun hc19 h=>?_)
  ·refine ifF (Q5l hc19 (by decide)) ?_
   first | (cases h;done) | (simp [Z6] at h;done)
  refine Wl h (fun hc20 h=>?_) (fun hc20 h=>?_)
  ·refine ifF (Q5l hc20 (by decide)) ?_
   first | (cases h;done) | (simp [Z6] at h;done)
  refine Wl h (fun hc21 h=>?_) (fun hc21 h=>?_)
  ·refine ifT (Q5l hc21 (by decide)) ?_;refine iL2 h fun h=>?_
   first | (cases h;done) | (simp [Z6] at h;done)
  refine Qok ?_;obtain rfl:=Qk h;exact u2
 refine Qv ?_;refine Ui Q1b .nil ?_;refine Wl h (fun hc23 h=>?_) (fun hc23 h=>?_)
 ·refine ifF (Q5l hc23 (by decide)) ?_
  first | (cases h;done) | (simp [Z6] at h;done)
 refine Wl h (fun hc24 h=>?_) (fun hc24 h=>?_)
 ·refine ifF (Q5l hc24 (by decide)) ?_
  first | (cases h;done) | (simp [Z6] at h;done)
 refine Wl h (fun hc25 h=>?_) (fun hc25 h=>?_)
 ·refine ifF (Q5l hc25 (by decide)) ?_;refine cP h Jz (.cons (Frz.agg' (Yf (f4_ (.cons (.p _) p5)))) .nil) fun v26 h=>?_;refine iL2 h fun h=>?_;exact iB2 h
 refine Wl h (fun hc30 h=>?_) (fun hc30 h=>?_)
 ·refine ifF (Q5l hc30 (by decide)) ?_
  first | (cases h;done) | (simp [Z6] at h;done)
 refine Wl h (fun hc31 h=>?_) (fun hc31 h=>?_)
 ·refine ifF (Q5l hc31 (by decide)) ?_
  first | (cases h;done) | (simp [Z6] at h;done)
 refine Wl h (fun hc32 h=>?_) (fun hc32 h=>?_)
 ·refine ifF (Q5l hc32 (by decide)) ?_
  first | (cases h;done) | (simp [Z6] at h;done)
 refine Wl h (fun hc33 h=>?_) (fun hc33 h=>?_)
 ·refine ifF (Q5l hc33 (by decide)) ?_
  first | (cases h;done) | (simp [Z6] at h;done)
 refine Wl h (fun hc34 h=>?_) (fun hc34 h=>?_)
 ·refine ifF (Q5l hc34 (by decide)) ?_
  first | (cases h;done) | (simp [Z6] at h;done)
 refine Wl h (fun hc35 h=>?_) (fun hc35 h=>?_)
 ·refine ifF (Q5l hc35 (by decide)) ?_
  first | (cases h;done) | (simp [Z6] at h;done)
 refine Wl h (fun hc36 h=>?_) (fun hc36 h=>?_)
 ·refine ifF (Q5l hc36 (by decide)) ?_
  first | (cases h;done) | (simp [Z6] at h;done)
 refine Wl h (fun hc37 h=>?_) (fun hc37 h=>?_)
 ·refine ifF (Q5l hc37 (by decide)) ?_
  first | (cases h;done) | (simp [Z6] at h;done)
 refine Wl h (fun hc38 h=>?_) (fun hc38 h=>?_)
 ·refine ifF (Q5l hc38 (by decide)) ?_
  first | (cases h;done) | (simp [Z6] at h;done)
 refine Wl h (fun hc39 h=>?_) (fun hc39 h=>?_)
 ·refine ifF (Q5l hc39 (by decide)) ?_
  first | (cases h;done) | (simp [Z6] at h;done)
 refine Wl h (fun hc40 h=>?_) (fun hc40 h=>?_)
 ·refine ifF (Q5l hc40 (by decide)) ?_
  first | (cases h;done) | (simp [Z6] at h;done)
 refine Wl h (fun hc41 h=>?_) (fun hc41 h=>?_)
 ·refine ifT (Q5l hc41 (by decide)) ?_;refine iL2 h fun h=>?_
  first | (cases h;done) | (simp [Z6] at h;done)
 refine Qok ?_;obtain rfl:=Qk h;exact u2
def Q1l (N:Nat) (version:Int) (p:Q5):Option Int:=
 (Q11 N version p).bind fun v1=>
 some v1.2
theorem Q9g {N} {version} {p} {r} (h:Q1l N version p=some r):pU 24 [.int .i64 version,.agg (Q5.cells p)] (.int .i64 r):=by
 refine Q0 k24 ?_;unfold Q1l at h;refine cP h Q4o (.cons (.p _) (.cons (Frz.agg' (Yf (f2_ (f1_ (.cons (.p _) p5))))) .nil)) fun v1 h=>?_;cases h;exact (.p _)
def U7 (_N:Nat) (proto:Int) (p:Q5):Option Zo:=
 some (⟨proto,2,[],[],0,false,false,0,[],0,[],0,p,(⟨0,(⟨false,0,false,false,false,0⟩:Q6o),0,0,0,false,0,0,0,[],[]⟩:Qey),(⟨0,0,[],[]⟩:Wb)⟩:Zo)
theorem Q29 {N} {proto} {p} {r} (h:U7 N proto p=some r):pU 25 [.int .i64 proto,.agg (Q5.cells p)] (.agg (Zo.cells r)):=by
 refine Q0 k25 ?_;unfold U7 at h;obtain rfl:=Qk h;exact (Frz.agg' (f8_ (.cons (.nil _) (.cons (.p _) (.cons (.nil _) (Yf (Yf (f8_ (f4_ (f1_ (.cons (.nil _) .nil)))))))))))
def Vi (_N:Nat) (proto:Int) (p:Q5):Option Zo:=
 some (⟨proto,1,p.Topic,p.Payload,p.QoS,p.Retain,p.Dup,p.ID,p.Props,0,[],0,(⟨0,false,false,0,0,[],[],false,0,[],false,[],false,[],false,(⟨[],[],0,false,[]⟩:W7),false,0,[],[],[]⟩:Q5),(⟨0,(⟨false,0,false,false,false,0⟩:Q6o),0,0,0,false,0,0,0,[],[]⟩:Qey),(⟨0,0,[],[]⟩:Wb)⟩:Zo)
theorem Q15 {N} {proto} {p} {r} (h:Vi N proto p=some r):pU 26 [.int .i64 proto,.agg (Q5.cells p)] (.agg (Zo.cells r)):=by
 refine Q0 k26 ?_;unfold Vi at h;obtain rfl:=Qk h;exact (Frz.agg' (f8_ (f2_ (.cons (.nil _) (Yf (f4_ (.cons (.nil _) (f2_ (.cons (.nil _) (.cons (.nil _) (.cons (.nil _) (Yf (f2_ (f1_ (.cons (.nil _) .nil)))))))))))))))
def Wy (rz:Q3→Option Q3) (N:Nat) (v:Q3):Nat→Int→(List Q3)→Option Q3
 | 0,_,_=>none
 | n+1,s14,l15=>
  cond (Q4 .lss s14 ((Q3.rows v.Items).length:Int))
  ((idx v.Items s14).bind fun y17=>
  (rz y17).bind fun v19=>
  cond (Nat.ble ((l15.length+1+4096) * 56) 17592186044416) (Wy rz N v n (wrap .i64 (s14+1)) (l15 ++ [v19])) none)
  (some (⟨v.Kind,v.N',v.Text,l15⟩:Q3))
def Q0v (rz:Q3→Option Q3) (N:Nat) (v:Q3):Option Q3:=
 Wy rz N v N 0 []
theorem Q5n {rz:Q3→Option Q3} (hy1:∀ {v} {r},rz v=some r→pU 56 [.agg (Q3.cells v)] (.agg (Q3.cells r))) {N} {v} {r} (h:Q0v rz N v=some r):pU 56 [.agg (Q3.cells v)] (.agg (Q3.cells r)):=by
 refine Q0 k56 ?_;unfold Q0v at h;refine lpA (τ:=Int×(List Q3)) (fun ⟨s14,_⟩=>(.any :: .any :: .ptr 1 0 :: .ptr 2 0::a8 (a2 (.p (.slice 4 (Q3.rows v.Items))::iI ((Q3.rows v.Items).length:Int)::iI s14::a8 (a4 ([])))):List AV)) (fun ⟨_,l15⟩=>(.cells (iI v.Kind::iW v.N'::iS v.Text :: .p (.slice 4 (Q3.rows v.Items)) :: []) :: .cells (iI 0::iW 0::iS [] :: .p .nilSlice :: []) :: .cells (iI v.Kind::iW v.N'::iS v.Text :: .slice 4 3 0 l15.length :: []) :: .cells (Uz Q3.cells l15) :: []:List AObj)) (fun n0 ⟨s14,l15⟩=>Wy rz N v n0 s14 l15) (0,[]) h fun n0 ⟨s14,l15⟩ h=>?_
 first | rw [Wy] at h | simp only [Wy] at h
 rw [cX] at h;apply iU h<;>intro h
 ·refine Q3.xR h fun y17 h=>?_;refine Qv ?_;refine cD h hy1 (.cons q4 .nil) fun v19 h=>?_;obtain ⟨hk21,h⟩:=Qi2 h;refine Qcv (Q02 (c:=Q3.cells) (e:=4) (fun _=>rfl) sd hk21) ?_;refine Q7t (c:=Q3.cells) [v19] rfl ?_;show Exists _;exact ⟨(n0,(wrap .i64 (s14+1)),(l15 ++ [v19])),h,Li _,(rho [0,1,2,6]),Jd⟩
 obtain rfl:=Qk h;exact (Frz.agg' (f2_ (f1_ (.cons (Q3.frz_own (l:=l15) rfl trivial sd) .nil))))
def Jg:Nat→Q3→Option Q3
 | 0=>fun _=>none
 | N+1=>Q0v (Jg N) N
theorem Q61 {N} {v} {r} (h:Jg N v=some r):pU 56 [.agg (Q3.cells v)] (.agg (Q3.cells r)):=by
 induction N generalizing v r with
 | zero=>simp [Jg] at h
 | succ N ih=>exact Q5n (fun h=>ih h) h
def Q5c (N:Nat) (p:Q5):Option (Q5):=
 (Q9l N p.Codes).bind fun v1=>
 (Q4w N p.Filters).bind fun v3=>
 (Q1j N p.Props).bind fun v5=>
 (Q1j N p.Will.Props).bind fun v7=>
 some (⟨p.Kind,p.Dup,p.Retain,p.QoS,p.ID,p.Topic,p.Payload,p.Clean,p.KeepAlive,p.Client,p.HasUser,p.User,p.HasPass,p.Pass,p.HasWill,(⟨p.Will.Topic,p.Will.Payload,p.Will.QoS,p.Will.Retain,v7⟩:W7),p.Session,p.Code,v1,v3,v5⟩:Q5)
theorem Qap {N} {p} {r} (h:Q5c N p=some r):pU 55 [.agg (Q5.cells p)] (.agg (Q5.cells r)):=by
 refine Q0 k55 ?_;unfold Q5c at h;refine Qv ?_;refine dcO h Qad [2] (fun v1 => .slice 1 2 0 v1.length) (rE rfl <| rN) fun v1 h=>?_;refine dcO h Q5q [3] (fun v3 => .slice 5 3 0 v3.length) (rE rfl <| rN) fun v3 h=>?_;refine Qv ?_;refine dcO h Q00 [4] (fun v5 => .slice 4 4 0 v5.length) (rE rfl <| rN) fun v5 h=>?_;refine dcO h Q00 [5] (fun v7 => .slice 4 5 0 v7.length) (rE rfl <| rN) fun v7 h=>?_;obtain rfl:=Qk h;exact (Frz.agg' (Yf (f2_ (f1_ (.cons (frz_own (c:=Qj.cells) (l:=(v7:List Qj)) (fun _=>rfl) rfl trivial sd) (f2_ (.cons (frz_own (c:=(cI .i64)) (l:=(v1:List Int)) (fun _=>rfl) rfl trivial sd) (.cons (frz_own (c:=Qn.cells) (l:=(v3:List Qn)) (fun _=>rfl) rfl trivial sd) (.cons (frz_own (c:=Qj.cells) (l:=(v5:List Qj)) (fun _=>rfl) rfl trivial sd) .nil)))))))))
def Ub (N:Nat) (e:Zo) (v1:List Qj) (v3:List Q3e) (v5:Q5):Nat→Int→(List Q3)→Option Zo
 | 0,_,_=>none
 | n+1,s20,l21=>
  cond (Q4 .lss s20 ((Q3.rows e.Frame.Values).length:Int))
  ((idx e.Frame.Values s20).bind fun y23=>
  (Jg N y23).bind fun v25=>
  cond (Nat.ble ((l21.length+1+4096) * 56) 17592186044416) (Ub N e v1 v3 v5 n (wrap .i64 (s20+1)) (l21 ++ [v25])) none)
  (some (⟨e.Proto,e.Kind,e.Topic,e.Payload,e.QoS,e.Retain,e.Dup,e.ID,v1,e.Type',v3,e.Channel,v5,e.Msg,(⟨e.Frame.Type',e.Frame.Channel,e.Frame.Ext,l21⟩:Wb)⟩:Zo))
def Ud (N:Nat) (e:Zo):Option Zo:=
 (Q1j N e.Props).bind fun v1=>
 (Q99 N e.Hops).bind fun v3=>
 (Q5c N e.Packet).bind fun v5=>
 Ub N e v1 v3 v5 N 0 []
theorem Jv {N} {e} {r} (h:Ud N e=some r):pU 27 [.agg (Zo.cells e)] (.agg (Zo.cells r)):=by
 refine Q0 k27 ?_;unfold Ud at h;refine cO h Q00 (fun v1 => .slice 4 3 0 v1.length) (rE rfl <| rN) fun v1 h=>?_;refine cO h Q8u (fun v3 => .slice 2 4 0 v3.length) (rE rfl <| rN) fun v3 h=>?_;refine cP h Qap (.cons (Frz.agg' (Yf (f2_ (f1_ (.cons (.p _) p5))))) .nil) fun v5 h=>?_;refine lpA (τ:=Int×(List Q3)) (fun ⟨s20,_⟩=>(.any :: .any :: .ptr 1 0 :: .ptr 2 0::a16 (a2 (.any :: .p (.slice 4 (Q3.rows e.Frame.Values))::iI ((Q3.rows e.Frame.Values).length:Int)::iI s20::a8 (a4 (a2 ([]))))):List AV)) (fun ⟨_,l21⟩=>(.cells (Qgi e ([])) :: .cells (iI 0::iI 0::iS []::iS []::iI 0 :: .p (.bool false) :: .p (.bool false)::iI 0 :: .p .nilSlice::iI 0 :: .p .nilSlice::iI 0::iI 0 :: .p (.bool false) :: .p (.bool false)::iI 0::iI 0::iS []::iS [] :: .p (.bool false)::iI 0::iS [] :: .p (.bool false)::iS [] :: .p (.bool false)::iS [] :: .p (.bool false)::iS []::iS []::iI 0 :: .p (.bool false) :: .p .nilSlice :: .p (.bool false)::iI 0 :: .p .nilSlice :: .p .nilSlice :: .p .nilSlice::iI 0 :: .p (.bool false)::iI 0 :: .p (.bool false) :: .p (.bool false) :: .p (.bool false)::iI 0::iI 0::iI 0::iI 0 :: .p (.bool false)::iI 0::iI 0::iI 0::iS []::iS []::iI 0::iI 0::iS [] :: .p .nilSlice :: []) :: .cells (iI e.Proto::iI e.Kind::iS e.Topic::iS e.Payload::iI e.QoS :: .p (.bool e.Retain) :: .p (.bool e.Dup)::iI e.ID :: .slice 4 3 0 v1.length::iI e.Type' :: .slice 2 4 0 v3.length::iI e.Channel::Qkh v5 (Qr2 e.Msg (iI e.Frame.Type'::iI e.Frame.Channel::iS e.Frame.Ext :: .slice 4 5 0 l21.length :: []))) :: .cells (Uz Qj.cells v1) :: .cells (Uz Q3e.cells v3) :: .cells (Uz Q3.cells l21) :: []:List AObj)) (fun n0 ⟨s20,l21⟩=>Ub N e v1 v3 v5 n0 s20 l21) (0,[]) h fun n0 ⟨s20,l21⟩ h=>?_
 first | rw [Ub] at h | simp only [Ub] at h
 rw [cX] at h;apply iU h<;>intro h
 ·refine Q3.xR h fun y23 h=>?_;refine Qv ?_;refine cD h Q61 (.cons q4 .nil) fun v25 h=>?_;obtain ⟨hk27,h⟩:=Qi2 h;refine Qcv (Q02 (c:=Q3.cells) (e:=4) (fun _=>rfl) sd hk27) ?_;refine Q7t (c:=Q3.cells) [v25] rfl ?_;show Exists _;exact ⟨(n0,(wrap .i64 (s20+1)),(l21 ++ [v25])),h,Li _,(rho [0,1,2,3,4,8]),Jd⟩
 obtain rfl:=Qk h;exact (Frz.agg' (f8_ (.cons (frz_own (c:=Qj.cells) (l:=(v1:List Qj)) (fun _=>rfl) rfl trivial sd) (.cons (.p _) (.cons (frz_own (c:=Q3e.cells) (l:=(v3:List Q3e)) (fun _=>rfl) rfl trivial sd) (Yf (Yf (f8_ (f4_ (f1_ (.cons (Q3.frz_own (l:=l21) rfl trivial sd) .nil)))))))))))
def W4 (N:Nat) (version:Int) (p:Q5):Option (Zo×Int):=
 (Q03 N version).bind fun v1=>
 cond (!v1.2)
 (some ((⟨0,0,[],[],0,false,false,0,[],0,[],0,(⟨0,false,false,0,0,[],[],false,0,[],false,[],false,[],false,(⟨[],[],0,false,[]⟩:W7),false,0,[],[],[]⟩:Q5),(⟨0,(⟨false,0,false,false,false,0⟩:Q6o),0,0,0,false,0,0,0,[],[]⟩:Qey),(⟨0,0,[],[]⟩:Wb)⟩:Zo),2))
 ((Q1l N version p).bind fun v4=>
 cond (Q4 .neq v4 0)
 (some ((⟨0,0,[],[],0,false,false,0,[],0,[],0,(⟨0,false,false,0,0,[],[],false,0,[],false,[],false,[],false,(⟨[],[],0,false,[]⟩:W7),false,0,[],[],[]⟩:Q5),(⟨0,(⟨false,0,false,false,false,0⟩:Q6o),0,0,0,false,0,0,0,[],[]⟩:Qey),(⟨0,0,[],[]⟩:Wb)⟩:Zo),v4))
 (cond (Q4 .eql p.Kind 3)
 (cond (G0 .eql p.Topic [])
 (some ((⟨0,0,[],[],0,false,false,0,[],0,[],0,(⟨0,false,false,0,0,[],[],false,0,[],false,[],false,[],false,(⟨[],[],0,false,[]⟩:W7),false,0,[],[],[]⟩:Q5),(⟨0,(⟨false,0,false,false,false,0⟩:Q6o),0,0,0,false,0,0,0,[],[]⟩:Qey),(⟨0,0,[],[]⟩:Wb)⟩:Zo),11))
 ((Vi N v1.1 p).bind fun v9=>
 (Ud N v9).bind fun v11=>
 some (v11,0)))
 ((U7 N v1.1 p).bind fun v13=>
 (Ud N v13).bind fun v15=>
 some (v15,0))))
theorem Q05 {N} {version} {p} {r} (h:W4 N version p=some r):pU 9 [.int .i64 version,.agg (Q5.cells p)] (.tuple [.agg (Zo.cells r.1),.int .i64 r.2]):=by
 refine Q0 k9 ?_;unfold W4 at h;rw [cX,cY] at h;refine cP h Q51 p1 fun v1 h=>?_;apply iU h<;>intro h
 ·obtain rfl:=Qk h;exact (Frz.tuple' (.cons (Frz.agg' (f8_ (.cons (.nil _) (.cons (.p _) (.cons (.nil _) (Yf (f4_ (.cons (.nil _) (f2_ (.cons (.nil _) (.cons (.nil _) (.cons (.nil _) (Yf (f2_ (f1_ (.cons (.nil _) .nil)))))))))))))))) p1))
 refine cP h Q9g (.cons (.p _) (.cons (Frz.agg' (Yf (f2_ (f1_ (.cons (.p _) p5))))) .nil)) fun v4 h=>?_;apply iU h<;>intro h
 ·obtain rfl:=Qk h;exact (Frz.tuple' (.cons (Frz.agg' (f8_ (.cons (.nil _) (.cons (.p _) (.cons (.nil _) (Yf (f4_ (.cons (.nil _) (f2_ (.cons (.nil _) (.cons (.nil _) (.cons (.nil _) (Yf (f2_ (f1_ (.cons (.nil _) .nil)))))))))))))))) p1))
 apply iU h<;>intro h
 ·apply iU h<;>intro h
  ·obtain rfl:=Qk h;exact (Frz.tuple' (.cons (Frz.agg' (f8_ (.cons (.nil _) (.cons (.p _) (.cons (.nil _) (Yf (f4_ (.cons (.nil _) (f2_ (.cons (.nil _) (.cons (.nil _) (.cons (.nil _) (Yf (f2_ (f1_ (.cons (.nil _) .nil)))))))))))))))) p1))
  refine cP h Q15 (.cons (.p _) (.cons (Frz.agg' (Yf (f2_ (f1_ (.cons (.p _) p5))))) .nil)) fun v9 h=>?_;refine cP h Jv p1 fun v11 h=>?_;obtain rfl:=Qk h;exact (Frz.tuple' (.cons (Frz.agg' (Yf (Yf (Yf (f2_ (f1_ (.cons (.p _) p5))))))) p1))
 refine cP h Q29 (.cons (.p _) (.cons (Frz.agg' (Yf (f2_ (f1_ (.cons (.p _) p5))))) .nil)) fun v13 h=>?_;refine cP h Jv p1 fun v15 h=>?_;obtain rfl:=Qk h;exact (Frz.tuple' (.cons (Frz.agg' (Yf (Yf (Yf (f2_ (f1_ (.cons (.p _) p5))))))) p1))
def G6 (_N:Nat):Option (Q5):=
 some (⟨3,false,false,0,0,[97,47,98],[104,105],false,0,[],false,[],false,[],false,(⟨[],[],0,false,[]⟩:W7),false,0,[],[],[]⟩:Q5)
theorem Q3m {N} {r} (h:G6 N=some r):pU 18 [] (.agg (Q5.cells r)):=by
 refine Q0 k18 ?_;unfold G6 at h;obtain rfl:=Qk h;exact (Frz.agg' (Yf (f2_ (f1_ (.cons (.nil _) (f2_ (.cons (.nil _) (.cons (.nil _) (.cons (.nil _) .nil)))))))))
def Wq (N:Nat):Option Bool:=
 (G6 N).bind fun v1=>
 (W4 N 4 v1).bind fun v3=>
 cond (Q4 .eql v3.2 0)
 (cond (Q4 .eql v3.1.Proto 1)
 (cond (Q4 .eql v3.1.Kind 1)
 (cond (G0 .eql v3.1.Topic [97,47,98])
 (some (G0 .eql v3.1.Payload [104,105]))
 (some false))
 (some false))
 (some false))
 (some false)
theorem Q2a {N} {r} (h:Wq N=some r):pU 5 [] (.bool r):=by
 refine Q0 k5 ?_;unfold Wq at h;rw [cX,cY] at h;refine cP h Q3m p0 fun v1 h=>?_;refine cP h Q05 p2 fun v3 h=>?_;refine iR h fun h=>?_;refine iR h fun h=>?_;refine iR h fun h=>?_;exact iB h
def Z8 (N:Nat) (l:List Qj):Nat→Int→Option Bool
 | 0,_=>none
 | n+1,i17=>
  cond (Q4 .lss i17 ((Qc Qj.cells l).length:Int))
  ((idx l i17).bind fun y19=>
  cond (Q4 .gtr (y19.Text.length:Int) 300)
  (some false)
  ((idx l i17).bind fun y22=>
  cond (Q4 .gtr (y22.Value.length:Int) 300)
  (some false)
  (Z8 N l n (wrap .i64 (i17+1)))))
  (some (Q4 .leq ((Qc Qj.cells l).length:Int) 30))
def Z1 (N:Nat) (l:List Qj):Option Bool:=
 Z8 N l N 0
theorem Ys {N} {l} {r} (h:Z1 N l=some r):pU 19 [.slice 4 (Qc Qj.cells l)] (.bool r):=by
 refine Q0 k19 ?_;unfold Z1 at h;refine lpH (τ:=Int) (fun i17=>(.p (.slice 4 (Qc Qj.cells l)) :: .any :: .any::iI i17::a16 (a8 (.any :: [])):List AV)) (fun n0 i17=>Z8 N l n0 i17) (0) h fun n0 i17 h=>?_
 first | rw [Z8] at h | simp only [Z8] at h
 rw [cX] at h;refine iR h fun h=>?_;refine xR h fun y19 h=>?_;refine iL h fun h=>?_;refine xR h fun y22 h=>?_;refine iL h fun h=>?_;show Exists _;exact ⟨(n0,(wrap .i64 (i17+1))),h,Li _,(fun i=>i),Jd⟩
def Z4 (N:Nat) (p:Q5):Nat→Int→Option Bool
 | 0,_=>none
 | n+1,i11=>
  cond (Q4 .lss i11 ((Qc Qn.cells p.Filters).length:Int))
  (cond (Q4 .lss i11 31)
  ((idx p.Filters i11).bind fun y14=>
  cond (Q4 .gtr (y14.Topic.length:Int) 2000)
  (some false)
  (Z4 N p n (wrap .i64 (i11+1))))
  (cond (Q4 .leq (p.Topic.length:Int) 2000)
  (cond (Q4 .leq (p.Payload.length:Int) 2000)
  (cond (Q4 .leq (p.Client.length:Int) 2000)
  (cond (Q4 .leq (p.User.length:Int) 2000)
  (cond (Q4 .leq (p.Pass.length:Int) 2000)
  (cond (Q4 .leq (p.Will.Topic.length:Int) 2000)
  (cond (Q4 .leq (p.Will.Payload.length:Int) 2000)
  (cond (Q4 .leq ((Qc (cI .i64) p.Codes).length:Int) 30)
  (cond (Q4 .leq ((Qc Qn.cells p.Filters).length:Int) 30)
  ((Z1 N p.Props).bind fun v26=>
  cond v26
  ((Z1 N p.Will.Props).bind fun v29=>
  some v29)
  (some false))
  (some false))
  (some false))
  (some false))
  (some false))
  (some false))
  (some false))
  (some false))
  (some false))
  (some false)))
  (cond (Q4 .leq (p.Topic.length:Int) 2000)
  (cond (Q4 .leq (p.Payload.length:Int) 2000)
  (cond (Q4 .leq (p.Client.length:Int) 2000)
  (cond (Q4 .leq (p.User.length:Int) 2000)
  (cond (Q4 .leq (p.Pass.length:Int) 2000)
  (cond (Q4 .leq (p.Will.Topic.length:Int) 2000)
  (cond (Q4 .leq (p.Will.Payload.length:Int) 2000)
  (cond (Q4 .leq ((Qc (cI .i64) p.Codes).length:Int) 30)
  (cond (Q4 .leq ((Qc Qn.cells p.Filters).length:Int) 30)
  ((Z1 N p.Props).bind fun v40=>
  cond v40
  ((Z1 N p.Will.Props).bind fun v43=>
  some v43)
  (some false))
  (some false))
  (some false))
  (some false))
  (some false))
  (some false))
  (some false))
  (some false))
  (some false))
  (some false))
def Xa (N:Nat) (p:Q5):Option Bool:=
 Z4 N p N 0
theorem Q0e {N} {p} {r} (h:Xa N p=some r):pU 6 [.agg (Q5.cells p)] (.bool r):=by
 refine Q0 k6 ?_;unfold Xa at h;refine lpH (τ:=Int) (fun i11=>(.any :: .ptr 0 0 :: .any::iI i11::a16 (a16 (a16 (a16 (a16 (a4 ([])))))):List AV)) (fun n0 i11=>Z4 N p n0 i11) (0) h fun n0 i11 h=>?_
 first | rw [Z4] at h | simp only [Z4] at h
 rw [cX] at h;apply iU h<;>intro h
 ·apply iU h<;>intro h
  ·refine xR h fun y14 h=>?_;refine iL h fun h=>?_;show Exists _;exact ⟨(n0,(wrap .i64 (i11+1))),h,Li _,(fun i=>i),Jd⟩
  refine iR h fun h=>?_;refine iR h fun h=>?_;refine iR h fun h=>?_;refine iR h fun h=>?_;refine iR h fun h=>?_;refine iR h fun h=>?_;refine iR h fun h=>?_;refine iR h fun h=>?_;refine iR h fun h=>?_;refine cP h Ys p1 fun v26 h=>?_;refine iR h fun h=>?_;refine cP h Ys p1 fun v29 h=>?_;cases h;exact (.p _)
 refine iR h fun h=>?_;refine iR h fun h=>?_;refine iR h fun h=>?_;refine iR h fun h=>?_;refine iR h fun h=>?_;refine iR h fun h=>?_;refine iR h fun h=>?_;refine iR h fun h=>?_;refine iR h fun h=>?_;refine cP h Ys p1 fun v40 h=>?_;refine iR h fun h=>?_;refine cP h Ys p1 fun v43 h=>?_;cases h;exact (.p _)
def Zj (_N:Nat) (version:Int):Option Bool:=
 cond (Q4 .eql version 4)
 (some true)
 (some (Q4 .eql version 5))
theorem Zs {N} {version} {r} (h:Zj N version=some r):pU 49 [.int .i64 version] (.bool r):=by
 refine Q0 k49 ?_;unfold Zj at h;rw [cX] at h;exact iB h
def Zk (N:Nat) (a:List Qj) (b:List Qj):Nat→Int→Option Bool
 | 0,_=>none
 | n+1,i17=>
  cond (Q4 .lss i17 ((Qc Qj.cells a).length:Int))
  ((idx a i17).bind fun y19=>
  (idx b i17).bind fun y21=>
  cond (!(((y19.ID:Int) == y21.ID)&&(((y19.N':Int) == y21.N')&&(((y19.Text:List UInt8) == y21.Text)&&(((y19.Value:List UInt8) == y21.Value)&&true)))))
  (some false)
  (Zk N a b n (wrap .i64 (i17+1))))
  (some true)
def Zy (N:Nat) (a:List Qj) (b:List Qj):Option Bool:=
 cond (Q4 .neq ((Qc Qj.cells a).length:Int) ((Qc Qj.cells b).length:Int))
 (some false)
 (Zk N a b N 0)
theorem Vn {N} {a} {b} {r} (h:Zy N a b=some r):pU 33 [.slice 4 (Qc Qj.cells a),.slice 4 (Qc Qj.cells b)] (.bool r):=by
 refine Q0 k33 ?_;unfold Zy at h;rw [cX] at h;refine iL h fun h=>?_;refine lpH (τ:=Int) (fun i17=>(.p (.slice 4 (Qc Qj.cells a)) :: .p (.slice 4 (Qc Qj.cells b))::a2 (.any::iI i17::a16 (a4 ([]))):List AV)) (fun n0 i17=>Zk N a b n0 i17) (0) h fun n0 i17 h=>?_
 first | rw [Zk] at h | simp only [Zk] at h
 rw [cX] at h;refine iR h fun h=>?_;refine Qv ?_;refine xR h fun y19 h=>?_;refine xR h fun y21 h=>?_;refine iL h fun h=>?_;show Exists _;exact ⟨(n0,(wrap .i64 (i17+1))),h,Li _,(fun i=>i),Jd⟩
def Zh (N:Nat) (a:List Int) (b:List Int):Nat→Int→Option Bool
 | 0,_=>none
 | n+1,i17=>
  cond (Q4 .lss i17 ((Qc (cI .i64) a).length:Int))
  ((idx a i17).bind fun y19=>
  (idx b i17).bind fun y21=>
  cond (Q4 .neq y19 y21)
  (some false)
  (Zh N a b n (wrap .i64 (i17+1))))
  (some true)
def Yu (N:Nat) (a:List Int) (b:List Int):Option Bool:=
 cond (Q4 .neq ((Qc (cI .i64) a).length:Int) ((Qc (cI .i64) b).length:Int))
 (some false)
 (Zh N a b N 0)
theorem Q2k {N} {a} {b} {r} (h:Yu N a b=some r):pU 34 [.slice 1 (Qc (cI .i64) a),.slice 1 (Qc (cI .i64) b)] (.bool r):=by
 refine Q0 k34 ?_;unfold Yu at h;rw [cX] at h;refine iL h fun h=>?_;refine lpH (τ:=Int) (fun i17=>(.p (.slice 1 (Qc (cI .i64) a)) :: .p (.slice 1 (Qc (cI .i64) b))::a2 (.any::iI i17::a16 (a4 ([]))):List AV)) (fun n0 i17=>Zh N a b n0 i17) (0) h fun n0 i17 h=>?_
 first | rw [Zh] at h | simp only [Zh] at h
 rw [cX] at h;refine iR h fun h=>?_;refine Qv ?_;refine xR h fun y19 h=>?_;refine xR h fun y21 h=>?_;refine iL h fun h=>?_;show Exists _;exact ⟨(n0,(wrap .i64 (i17+1))),h,Li _,(fun i=>i),Jd⟩
def Z2 (N:Nat) (a:List Qn) (b:List Qn):Nat→Int→Option Bool
 | 0,_=>none
 | n+1,i17=>
  cond (Q4 .lss i17 ((Qc Qn.cells a).length:Int))
  ((idx a i17).bind fun y19=>
  (idx b i17).bind fun y21=>
  cond (!(((y19.Topic:List UInt8) == y21.Topic)&&(((y19.QoS:Int) == y21.QoS)&&(((y19.NoLocal:Bool) == y21.NoLocal)&&(((y19.AsPublished:Bool) == y21.AsPublished)&&(((y19.Handling:Int) == y21.Handling)&&true))))))
  (some false)
  (Z2 N a b n (wrap .i64 (i17+1))))
  (some true)
def Yb (N:Nat) (a:List Qn) (b:List Qn):Option Bool:=
 cond (Q4 .neq ((Qc Qn.cells a).length:Int) ((Qc Qn.cells b).length:Int))
 (some false)
 (Z2 N a b N 0)
theorem Q17 {N} {a} {b} {r} (h:Yb N a b=some r):pU 35 [.slice 5 (Qc Qn.cells a),.slice 5 (Qc Qn.cells b)] (.bool r):=by
 refine Q0 k35 ?_;unfold Yb at h;rw [cX] at h;refine iL h fun h=>?_;refine lpH (τ:=Int) (fun i17=>(.p (.slice 5 (Qc Qn.cells a)) :: .p (.slice 5 (Qc Qn.cells b))::a2 (.any::iI i17::a16 (a4 ([]))):List AV)) (fun n0 i17=>Z2 N a b n0 i17) (0) h fun n0 i17 h=>?_
 first | rw [Z2] at h | simp only [Z2] at h
 rw [cX] at h;refine iR h fun h=>?_;refine Qv ?_;refine xR h fun y19 h=>?_;refine xR h fun y21 h=>?_;refine iL h fun h=>?_;show Exists _;exact ⟨(n0,(wrap .i64 (i17+1))),h,Li _,(fun i=>i),Jd⟩
end
end
end Go.Av
