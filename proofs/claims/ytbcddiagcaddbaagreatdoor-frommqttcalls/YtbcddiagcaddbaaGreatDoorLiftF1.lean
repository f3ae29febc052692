/- Part of FrommqttCalls: the law returns true; no condition. -/
import Derived.Test.YtbcddiagcaddbaaGreatDoorLiftF0
set_option linter.all false
open Go.IntKind (wrap)
namespace Go.Av
noncomputable section
open Go.Proofs
set_option maxRecDepth 100000
set_option maxHeartbeats 4000000
attribute [local irreducible] Q06 Ue Qdu Qjw Qxl Qy1 Qj3
section
def X7 (_N:Nat) (s_0:List UInt8):Option (Int×Int):=
 cond (Q4 .lss (s_0.length:Int) 1)
 (some (65533,0))
 ((idx s_0 0).bind fun b2=>
 (idx gtab0 (b2.toNat:Int)).bind fun y4=>
 cond (Q4 .geq y4 240)
 ((idx s_0 0).bind fun b7=>
 some ((orI .i32 (Q2x .i32 (wrap .i32 (b7.toNat:Int)) (Qdb .i32 (Qbp .i32 (wrap .i32 y4) 31) 31)) (Q7g .i32 65533 (Qdb .i32 (Qbp .i32 (wrap .i32 y4) 31) 31))),1))
 ((idx gtab1 (Qdb .u8 y4 4)).bind fun y9=>
 cond (Q4 .lss (s_0.length:Int) (wrap .i64 (Q7g .u8 y4 7)))
 (some (65533,1))
 ((idx s_0 1).bind fun b12=>
 cond (Q4 .lss (b12.toNat:Int) y9.1)
 (some (65533,1))
 (cond (Q4 .lss y9.2 (b12.toNat:Int))
 (some (65533,1))
 (cond (Q4 .leq (wrap .i64 (Q7g .u8 y4 7)) 2)
 (some ((orI .i32 (Qbp .i32 (wrap .i32 (Q7g .u8 (b2.toNat:Int) 31)) 6) (wrap .i32 (Q7g .u8 (b12.toNat:Int) 63))),2))
 ((idx s_0 2).bind fun b17=>
 cond (Q4 .lss (b17.toNat:Int) 128)
 (some (65533,1))
 (cond (Q4 .lss 191 (b17.toNat:Int))
 (some (65533,1))
 (cond (Q4 .leq (wrap .i64 (Q7g .u8 y4 7)) 3)
 (some ((orI .i32 (orI .i32 (Qbp .i32 (wrap .i32 (Q7g .u8 (b2.toNat:Int) 15)) 12) (Qbp .i32 (wrap .i32 (Q7g .u8 (b12.toNat:Int) 63)) 6)) (wrap .i32 (Q7g .u8 (b17.toNat:Int) 63))),3))
 ((idx s_0 3).bind fun b22=>
 cond (Q4 .lss (b22.toNat:Int) 128)
 (some (65533,1))
 (cond (Q4 .lss 191 (b22.toNat:Int))
 (some (65533,1))
 (some ((orI .i32 (orI .i32 (orI .i32 (Qbp .i32 (wrap .i32 (Q7g .u8 (b2.toNat:Int) 7)) 18) (Qbp .i32 (wrap .i32 (Q7g .u8 (b12.toNat:Int) 63)) 12)) (Qbp .i32 (wrap .i32 (Q7g .u8 (b17.toNat:Int) 63)) 6)) (wrap .i32 (Q7g .u8 (b22.toNat:Int) 63))),4))))))))))))
theorem Jf {N} {s_0} {r} (h:X7 N s_0=some r):pU 508 [.str s_0] (.tuple [.int .i32 r.1,.int .i64 r.2]):=by
 refine Q0 Zgl ?_;unfold X7 at h;rw [cX] at h;refine iL2 h fun h=>?_;refine xB h fun b2 h=>?_;obtain ⟨y4,hy5,h⟩:=Q3o h;refine Q0r (Q8x hy5 Qwp) ?_
 refine Qux (c:=(cI .u8)) (e:=1) (fun _=>rfl) Qzj hy5 (off:=0) (by decide) (by first | omega | (simp only [Q7g,orI,Qoz,Q2x,Qbp,Qdb];omega)) ?_
 apply iU h<;>intro h
 ·refine xB h fun b7 h=>?_;obtain rfl:=Qi h;exact u2
 obtain ⟨y9,hy10,h⟩:=Q3o h;refine Q0r (Q8x hy10 Qvr) ?_
 refine Qux (c:=cUU) (e:=2) (fun _=>rfl) Qzx hy10 (off:=0) (by decide) (by first | omega | (simp only [Q7g,orI,Qoz,Q2x,Qbp,Qdb];omega)) ?_
 refine iL2 h fun h=>?_;refine xB h fun b12 h=>?_;refine iL2 h fun h=>?_;refine iL2 h fun h=>?_;refine iL2 h fun h=>?_;refine xB h fun b17 h=>?_;refine iL2 h fun h=>?_;refine iL2 h fun h=>?_;refine iL2 h fun h=>?_;refine xB h fun b22 h=>?_;refine iL2 h fun h=>?_;exact iB2 h
def U7 (N:Nat) (s_0:List UInt8):Option (Int×Int):=
 cond (Q1l .neq s_0 [])
 ((idx s_0 0).bind fun b2=>
 cond (Q4 .lss (b2.toNat:Int) 128)
 ((idx s_0 0).bind fun b5=>
 some ((wrap .i32 (b5.toNat:Int)),1))
 ((X7 N s_0).bind fun v7=>
 some (v7.1,v7.2)))
 ((X7 N s_0).bind fun v9=>
 some (v9.1,v9.2))
theorem Q43 {N} {s_0} {r} (h:U7 N s_0=some r):pU 503 [.str s_0] (.tuple [.int .i32 r.1,.int .i64 r.2]):=by
 refine Q0 Zdk ?_;unfold U7 at h;rw [cX,cY] at h;apply iU h<;>intro h
 ·refine xB h fun b2 h=>?_;apply iU h<;>intro h
  ·refine xB h fun b5 h=>?_;obtain rfl:=Qi h;exact u2
  refine cP h Jf p1 fun v7 h=>?_;obtain rfl:=Qi h;exact u2
 refine cP h Jf p1 fun v9 h=>?_;obtain rfl:=Qi h;exact u2
def Gs (N:Nat) (n5:Int):Nat->(List UInt8)->Int->(List (List UInt8))->Option (List (List UInt8))
 | 0,_,_,_=>none
 | n+1,s28,i29,l30=>
  cond (Q4 .lss i29 (wrap .i64 (n5 - 1)))
  ((U7 N s28).bind fun v32=>
  cond (decide (0≤v32.2)) (cond (Nat.ble 0 v32.2.toNat&&Nat.ble v32.2.toNat s28.length) ((idx (l30:List (List UInt8)) i29).bind fun y36=>
  cond (Nat.ble v32.2.toNat s28.length&&Nat.ble s28.length s28.length) (Gs N n5 n ((s28.take s28.length).drop v32.2.toNat) (wrap .i64 (i29+1)) ((l30:List (List UInt8)).set (Int.toNat i29) ((s28.take v32.2.toNat).drop 0))) none) none) none)
  (cond (Q4 .gtr n5 0)
  ((idx (l30:List (List UInt8)) (wrap .i64 (n5 - 1))).bind fun y40=>
  some ((l30:List (List UInt8)).set (Int.toNat (wrap .i64 (n5 - 1))) s28))
  (some l30))
def Gi (N:Nat) (s_0:List UInt8) (n5:Int):Option (List (List UInt8)):=
 cond (decide (0≤n5)&&decide (n5≤n5)&&decide (n5 * 16≤1099511627776)) (Gs N n5 N s_0 0 (List.replicate (n5:Int).toNat ([]:(List UInt8)))) none
def Q6h (N:Nat) (s_0:List UInt8) (n_1:Int):Option (List (List UInt8)):=
 (Uv N s_0).bind fun v1=>
 cond (Q4 .lss n_1 0)
 (Gi N s_0 v1)
 (cond (Q4 .gtr n_1 v1)
 (Gi N s_0 v1)
 (Gi N s_0 n_1))
theorem Qd8 {N} {s_0} {n_1} {r} (h:Q6h N s_0 n_1=some r):pU 491 [.str s_0,.int .i64 n_1] (.slice 1 (Q7 cS r)):=by
 refine Q0 Zpl ?_;unfold Q6h at h;rw [cX] at h;refine cP h Q4f p1 fun v1 h=>?_;refine jrH (r:=r) (σ:=Int) (fun n5=>(iS s_0::iI n5::a16 (a16 (a16 ([]))):List AV)) (fun n5=>Gi N s_0 n5) ?_ ?_
 ·apply iU h<;>intro h
  ·show Exists _;exact ⟨(v1),h,(fun i=>i),Yf⟩
  apply iU h<;>intro h
  ·show Exists _;exact ⟨(v1),h,(fun i=>i),Yf⟩
  show Exists _;exact ⟨(n_1),h,(fun i=>i),Yf⟩
 rintro n5 h
 unfold Gi at h;refine kU h fun h=>?_;refine Z3j (c:=cS) ([]:(List UInt8)) rfl ?_;refine lpC (τ:=(List UInt8)×Int×(List (List UInt8))) (fun ⟨s28,i29,l30⟩=>(iS s28::iI n5::a4 (.slice 1 1 0 l30.length::iI i29::a16 (a16 (a8 (a2 ([]))))):List AV)) (fun ⟨_,_,l30⟩=>(.dead :: .cells (Q0g cS l30) :: []:List AObj)) (fun n1 ⟨s28,i29,l30⟩=>Gs N n5 n1 s28 i29 l30) (s_0,0,(List.replicate (n5:Int).toNat ([]:(List UInt8)))) h (rho [0,0]) Yf fun n1 ⟨s28,i29,l30⟩ h=>?_
 first | rw [Gs] at h | simp only [Gs] at h
 rw [cX] at h;apply iU h<;>intro h
 ·refine cP h Q43 p1 fun v32 h=>?_;obtain ⟨hk34,h⟩:=Q48 h;refine Q0r hk34 ?_;refine kU h fun h=>?_;obtain ⟨y36,hy37,h⟩:=Q3o h;refine Q0r (Q8x hy37 sd) ?_;refine Q0r (Q59 (c:=cS) (e:=1) (fun _=>rfl) hy37 (off:=0) (by omega) rfl (by decide)) ?_
  refine Q60 (c:=cS) (e:=1) (fun _=>rfl) hy37 ((s28.take v32.2.toNat).drop 0) (off:=0) (by first | omega | (simp only [Q7g,orI,Qoz,Q2x,Qbp,Qdb];omega)) rfl (by simp) ?_
  refine Q0r hk34 ?_;refine kU h fun h=>?_;show Exists _;exact ⟨(n1,((s28.take s28.length).drop v32.2.toNat),(wrap .i64 (i29+1)),((l30:List (List UInt8)).set (Int.toNat i29) ((s28.take v32.2.toNat).drop 0))),h,Le _,(fun i=>i),Yf⟩
 apply iU h<;>intro h
 ·obtain ⟨y40,hy41,h⟩:=Q3o h;refine Q0r (Q8x hy41 sd) ?_;refine Q0r (Q59 (c:=cS) (e:=1) (fun _=>rfl) hy41 (off:=0) (by omega) rfl (by decide)) ?_
  refine Q60 (c:=cS) (e:=1) (fun _=>rfl) hy41 s28 (off:=0) (by first | omega | (simp only [Q7g,orI,Qoz,Q2x,Qbp,Qdb];omega)) rfl (by simp) ?_
  obtain rfl:=Qi h;exact (frz_own (c:=cS) (l:=(((l30:List (List UInt8)).set (Int.toNat (wrap .i64 (n5 - 1))) s28):List (List UInt8))) (fun _=>rfl) rfl trivial sd)
 obtain rfl:=Qi h;exact (frz_own (c:=cS) (l:=(l30:List (List UInt8))) (fun _=>rfl) rfl trivial sd)
def Vt (N:Nat) (s_0:List UInt8):Nat->(List UInt8)->Int->(List (List UInt8))->Option (List (List UInt8))
 | 0,_,_,_=>none
 | n+1,s36,i37,l38=>
  cond (Q4 .lss i37 (wrap .i64 ((ifB (decide ((wrap .i64 ((s_0.length:Int)+1))<(wrap .i64 ((Qbl s_0 (UInt8.ofNat (Int.toNat 47)) 0:Int)+1)))) (wrap .i64 ((s_0.length:Int)+1)) (wrap .i64 ((Qbl s_0 (UInt8.ofNat (Int.toNat 47)) 0:Int)+1))) - 1)))
  (cond (Q1l .eql [47] s36)
  ((idx (l38:List (List UInt8)) i37).bind fun y41=>
  cond (Nat.ble 1 s36.length&&Nat.ble s36.length s36.length) (Vt N s_0 n ((s36.take s36.length).drop 1) (wrap .i64 (i37+1)) ((l38:List (List UInt8)).set (Int.toNat i37) ((s36.take 0).drop 0))) none)
  ((Zk N s36 47).bind fun v44=>
  cond (Q4 .lss v44 0)
  ((idx (l38:List (List UInt8)) i37).bind fun y47=>
  cond (decide (0≤(wrap .i64 (i37+1)))) (cond (Nat.ble 0 ((wrap .i64 (i37+1)).toNat)&&Nat.ble ((wrap .i64 (i37+1)).toNat) l38.length) (some ((((l38:List (List UInt8)).set (Int.toNat i37) s36):List (List UInt8)).take ((wrap .i64 (i37+1)).toNat))) none) none)
  (cond (decide (0≤(wrap .i64 (v44+0)))) (cond (Nat.ble 0 ((wrap .i64 (v44+0)).toNat)&&Nat.ble ((wrap .i64 (v44+0)).toNat) s36.length) ((idx (l38:List (List UInt8)) i37).bind fun y53=>
  cond (decide (0≤(wrap .i64 (v44+1)))) (cond (Nat.ble (wrap .i64 (v44+1)).toNat s36.length&&Nat.ble s36.length s36.length) (Vt N s_0 n ((s36.take s36.length).drop ((wrap .i64 (v44+1)).toNat)) (wrap .i64 (i37+1)) ((l38:List (List UInt8)).set (Int.toNat i37) ((s36.take ((wrap .i64 (v44+0)).toNat)).drop 0))) none) none) none) none)))
  ((idx (l38:List (List UInt8)) i37).bind fun y57=>
  cond (decide (0≤(wrap .i64 (i37+1)))) (cond (Nat.ble 0 ((wrap .i64 (i37+1)).toNat)&&Nat.ble ((wrap .i64 (i37+1)).toNat) l38.length) (some ((((l38:List (List UInt8)).set (Int.toNat i37) s36):List (List UInt8)).take ((wrap .i64 (i37+1)).toNat))) none) none)
def Q46 (N:Nat) (s_0:List UInt8):Option (List (List UInt8)):=
 cond (Q1l .eql [47] [])
 ((Q6h N s_0 (-1)).bind fun v2=>
 some v2)
 (cond (decide (0≤(ifB (decide ((wrap .i64 ((s_0.length:Int)+1))<(wrap .i64 ((Qbl s_0 (UInt8.ofNat (Int.toNat 47)) 0:Int)+1)))) (wrap .i64 ((s_0.length:Int)+1)) (wrap .i64 ((Qbl s_0 (UInt8.ofNat (Int.toNat 47)) 0:Int)+1))))&&decide ((ifB (decide ((wrap .i64 ((s_0.length:Int)+1))<(wrap .i64 ((Qbl s_0 (UInt8.ofNat (Int.toNat 47)) 0:Int)+1)))) (wrap .i64 ((s_0.length:Int)+1)) (wrap .i64 ((Qbl s_0 (UInt8.ofNat (Int.toNat 47)) 0:Int)+1)))≤(ifB (decide ((wrap .i64 ((s_0.length:Int)+1))<(wrap .i64 ((Qbl s_0 (UInt8.ofNat (Int.toNat 47)) 0:Int)+1)))) (wrap .i64 ((s_0.length:Int)+1)) (wrap .i64 ((Qbl s_0 (UInt8.ofNat (Int.toNat 47)) 0:Int)+1))))&&decide ((ifB (decide ((wrap .i64 ((s_0.length:Int)+1))<(wrap .i64 ((Qbl s_0 (UInt8.ofNat (Int.toNat 47)) 0:Int)+1)))) (wrap .i64 ((s_0.length:Int)+1)) (wrap .i64 ((Qbl s_0 (UInt8.ofNat (Int.toNat 47)) 0:Int)+1))) * 16≤1099511627776)) (Vt N s_0 N s_0 0 (List.replicate ((ifB (decide ((wrap .i64 ((s_0.length:Int)+1))<(wrap .i64 ((Qbl s_0 (UInt8.ofNat (Int.toNat 47)) 0:Int)+1)))) (wrap .i64 ((s_0.length:Int)+1)) (wrap .i64 ((Qbl s_0 (UInt8.ofNat (Int.toNat 47)) 0:Int)+1))):Int).toNat ([]:(List UInt8)))) none)
theorem Qgq {N} {s_0} {r} (h:Q46 N s_0=some r):pU 399 [.str s_0] (.slice 1 (Q7 cS r)):=by
 refine Q0 Zkh ?_;unfold Q46 at h;rw [cY] at h;refine Zx Zpm ?_;refine Zx Zhc ?_;refine dF ?_;apply iU h<;>intro h
 ·refine cP h Qd8 p2 fun v2 h=>?_;cases h;exact (.p _)
 refine dT ?_;refine Zx Zdm ?_;refine dF ?_;refine dT ?_;refine kU h fun h=>?_;refine Z3j (c:=cS) ([]:(List UInt8)) rfl ?_;refine lpC (τ:=(List UInt8)×Int×(List (List UInt8))) (fun ⟨s36,i37,l38⟩=>(iS s36::iS [47]::iI 0 :: .p (.int .i64 (wrap .i64 ((ifB (decide ((wrap .i64 ((s_0.length:Int)+1))<(wrap .i64 ((Qbl s_0 (UInt8.ofNat (Int.toNat 47)) 0:Int)+1)))) (wrap .i64 ((s_0.length:Int)+1)) (wrap .i64 ((Qbl s_0 (UInt8.ofNat (Int.toNat 47)) 0:Int)+1))) - 1)))::a4 (.any :: .slice 1 1 0 l38.length::iI i37::a16 (a16 (a16 (a4 (a2 (.any :: [])))))):List AV)) (fun ⟨_,_,l38⟩=>(.dead :: .cells (Q0g cS l38) :: []:List AObj)) (fun n0 ⟨s36,i37,l38⟩=>Vt N s_0 n0 s36 i37 l38) (s_0,0,(List.replicate ((ifB (decide ((wrap .i64 ((s_0.length:Int)+1))<(wrap .i64 ((Qbl s_0 (UInt8.ofNat (Int.toNat 47)) 0:Int)+1)))) (wrap .i64 ((s_0.length:Int)+1)) (wrap .i64 ((Qbl s_0 (UInt8.ofNat (Int.toNat 47)) 0:Int)+1))):Int).toNat ([]:(List UInt8)))) h (rho [0,0]) Yf fun n0 ⟨s36,i37,l38⟩ h=>?_
 first | rw [Vt] at h | simp only [Vt] at h
 rw [cX,cY] at h;apply iU h<;>intro h
 ·refine Zx Zlq ?_;refine Zx Z9j ?_;refine dF ?_;apply iU h<;>intro h
  ·refine dF ?_;obtain ⟨y41,hy42,h⟩:=Q3o h;refine Q0r (Q8x hy42 sd) ?_;refine Q0r (Q59 (c:=cS) (e:=1) (fun _=>rfl) hy42 (off:=0) (by omega) rfl (by decide)) ?_
   refine Q60 (c:=cS) (e:=1) (fun _=>rfl) hy42 ((s36.take 0).drop 0) (off:=0) (by first | omega | (simp only [Q7g,orI,Qoz,Q2x,Qbp,Qdb];omega)) rfl (by simp) ?_
   refine kU h fun h=>?_;show Exists _;exact ⟨(n0,((s36.take s36.length).drop 1),(wrap .i64 (i37+1)),((l38:List (List UInt8)).set (Int.toNat i37) ((s36.take 0).drop 0))),h,Le _,(fun i=>i),Yf⟩
  refine dT ?_;refine cP h Vh p2 fun v44 h=>?_;apply iU h<;>intro h
  ·obtain ⟨y47,hy48,h⟩:=Q3o h;refine Q0r (Q8x hy48 sd) ?_;refine Q0r (Q59 (c:=cS) (e:=1) (fun _=>rfl) hy48 (off:=0) (by omega) rfl (by decide)) ?_
   refine Q60 (c:=cS) (e:=1) (fun _=>rfl) hy48 s36 (off:=0) (by first | omega | (simp only [Q7g,orI,Qoz,Q2x,Qbp,Qdb];omega)) rfl (by simp) ?_
   refine kU h fun h=>?_;obtain ⟨hk50,h⟩:=Q48 h;refine Q0r hk50 ?_;obtain rfl:=Qi h;exact (Qsq (c:=cS) (l:=(((l38:List (List UInt8)).set (Int.toNat i37) s36):List (List UInt8))) (fun _=>rfl) rfl trivial (by have e:l38.length=(((l38:List (List UInt8)).set (Int.toNat i37) s36):List (List UInt8)).length:=sd;simp only [La,Lm] at hk50;omega))
  refine kU h fun h=>?_;refine kU h fun h=>?_;obtain ⟨y53,hy54,h⟩:=Q3o h;refine Q0r (Q8x hy54 sd) ?_;refine Q0r (Q59 (c:=cS) (e:=1) (fun _=>rfl) hy54 (off:=0) (by omega) rfl (by decide)) ?_
  refine Q60 (c:=cS) (e:=1) (fun _=>rfl) hy54 ((s36.take ((wrap .i64 (v44+0)).toNat)).drop 0) (off:=0) (by first | omega | (simp only [Q7g,orI,Qoz,Q2x,Qbp,Qdb];omega)) rfl (by simp) ?_
  refine kU h fun h=>?_;refine kU h fun h=>?_;show Exists _;exact ⟨(n0,((s36.take s36.length).drop ((wrap .i64 (v44+1)).toNat)),(wrap .i64 (i37+1)),((l38:List (List UInt8)).set (Int.toNat i37) ((s36.take ((wrap .i64 (v44+0)).toNat)).drop 0))),h,Le _,(fun i=>i),Yf⟩
 obtain ⟨y57,hy58,h⟩:=Q3o h;refine Q0r (Q8x hy58 sd) ?_;refine Q0r (Q59 (c:=cS) (e:=1) (fun _=>rfl) hy58 (off:=0) (by omega) rfl (by decide)) ?_
 refine Q60 (c:=cS) (e:=1) (fun _=>rfl) hy58 s36 (off:=0) (by first | omega | (simp only [Q7g,orI,Qoz,Q2x,Qbp,Qdb];omega)) rfl (by simp) ?_
 refine kU h fun h=>?_;obtain ⟨hk60,h⟩:=Q48 h;refine Q0r hk60 ?_;obtain rfl:=Qi h;exact (Qsq (c:=cS) (l:=(((l38:List (List UInt8)).set (Int.toNat i37) s36):List (List UInt8))) (fun _=>rfl) rfl trivial (by have e:l38.length=(((l38:List (List UInt8)).set (Int.toNat i37) s36):List (List UInt8)).length:=sd;simp only [La,Lm] at hk60;omega))
def Q05 (N:Nat) (s_0:List UInt8):Option Bool:=
 (Q6x N s_0).bind fun v1=>
 cond v1
 ((Q46 N s_0).bind fun v4=>
 (Q44 N v4).bind fun v6=>
 some v6)
 (some false)
theorem Q6e {N} {s_0} {r} (h:Q05 N s_0=some r):pU 338 [.str s_0] (.bool r):=by
 refine Q0 Zh4 ?_;unfold Q05 at h;refine cP h Qcg p1 fun v1 h=>?_;refine iR h fun h=>?_;refine cP h Qgq p1 fun v4 h=>?_;refine cP h Qh0 p1 fun v6 h=>?_;cases h;exact (.p _)
def Jb (_N:Nat) (n_0:Int):Option Bool:=
 cond (Q4 .geq n_0 0)
 (some (Q4 .lss n_0 3))
 (some false)
theorem Q3w {N} {n_0} {r} (h:Jb N n_0=some r):pU 400 [.int .i64 n_0] (.bool r):=by
 refine Q0 Zkj ?_;unfold Jb at h;rw [cX] at h;exact iB h
def Wi (_N:Nat) (s_0:List UInt8) (prefix_1:List UInt8):Option Bool:=
 cond (Q4 .geq (s_0.length:Int) (prefix_1.length:Int))
 (cond (Nat.ble 0 prefix_1.length&&Nat.ble prefix_1.length s_0.length) (some (Q1l .eql ((s_0.take prefix_1.length).drop 0) prefix_1)) none)
 (some false)
theorem Q4c {N} {s_0} {prefix_1} {r} (h:Wi N s_0 prefix_1=some r):pU 494 [.str s_0,.str prefix_1] (.bool r):=by
 refine Q0 Zkp ?_;unfold Wi at h;rw [cX,cY] at h;refine iR h fun h=>?_;refine kU h fun h=>?_;cases h;exact (.p _)
def Wh (N:Nat) (s_0:List UInt8) (prefix_1:List UInt8):Option ((List UInt8)×Bool):=
 (Wi N s_0 prefix_1).bind fun v1=>
 cond (!v1)
 (some (s_0,false))
 (cond (Nat.ble prefix_1.length s_0.length&&Nat.ble s_0.length s_0.length) (some (((s_0.take s_0.length).drop prefix_1.length),true)) none)
theorem Q4e {N} {s_0} {prefix_1} {r} (h:Wh N s_0 prefix_1=some r):pU 472 [.str s_0,.str prefix_1] (.tuple [.str r.1,.bool r.2]):=by
 refine Q0 Zjh ?_;unfold Wh at h;refine cP h Q4c p2 fun v1 h=>?_;refine iL2 h fun h=>?_;refine kU h fun h=>?_;obtain rfl:=Qi h;exact u2
def Q0c (N:Nat) (s_0:List UInt8) (prefix_1:List UInt8):Option ((List UInt8)×Bool):=
 (Wh N s_0 prefix_1).bind fun v1=>
 some (v1.1,v1.2)
theorem Qbh {N} {s_0} {prefix_1} {r} (h:Q0c N s_0 prefix_1=some r):pU 437 [.str s_0,.str prefix_1] (.tuple [.str r.1,.bool r.2]):=by
 refine Q0 Zbi ?_;unfold Q0c at h;refine cP h Q4e p2 fun v1 h=>?_;obtain rfl:=Qi h;exact u2
def Q40 (N:Nat) (s_0:List UInt8):Option ((List UInt8)×(List UInt8)×Bool):=
 (Q0c N s_0 [36,115,104,97,114,101,47]).bind fun v1=>
 cond (Q1l .eql [47] v1.1)
 (cond (Nat.ble 1 v1.1.length&&Nat.ble v1.1.length v1.1.length) (cond (!v1.2)
 (some ([],[],false))
 ((Yw N s_0).bind fun v6=>
 cond (!v6)
 (some ([],[],false))
 ((Jx N ((v1.1.take 0).drop 0)).bind fun v9=>
 cond (!v9)
 (some ([],[],false))
 ((Q05 N ((v1.1.take v1.1.length).drop 1)).bind fun v12=>
 cond (!v12)
 (some ([],[],false))
 (some (((v1.1.take 0).drop 0),((v1.1.take v1.1.length).drop 1),true)))))) none)
 ((Zk N v1.1 47).bind fun v15=>
 cond (Q4 .geq v15 0)
 (cond (decide (0≤v15)) (cond (Nat.ble 0 v15.toNat&&Nat.ble v15.toNat v1.1.length) (cond (decide (0≤(wrap .i64 (v15+1)))) (cond (Nat.ble (wrap .i64 (v15+1)).toNat v1.1.length&&Nat.ble v1.1.length v1.1.length) (cond (!v1.2)
 (some ([],[],false))
 ((Yw N s_0).bind fun v23=>
 cond (!v23)
 (some ([],[],false))
 ((Jx N ((v1.1.take v15.toNat).drop 0)).bind fun v26=>
 cond (!v26)
 (some ([],[],false))
 ((Q05 N ((v1.1.take v1.1.length).drop ((wrap .i64 (v15+1)).toNat))).bind fun v29=>
 cond (!v29)
 (some ([],[],false))
 (some (((v1.1.take v15.toNat).drop 0),((v1.1.take v1.1.length).drop ((wrap .i64 (v15+1)).toNat)),true)))))) none) none) none) none)
 (cond (!v1.2)
 (some ([],[],false))
 (some ([],[],false))))
theorem Qgn {N} {s_0} {r} (h:Q40 N s_0=some r):pU 401 [.str s_0] (.tuple [.str r.1,.str r.2.1,.bool r.2.2]):=by
 refine Q0 Zc7 ?_;unfold Q40 at h;rw [cX,cY] at h;refine cP h Qbh p2 fun v1 h=>?_;refine Zx Zox ?_;refine Zx Zko ?_;refine Zx Z9j ?_;refine dF ?_;apply iU h<;>intro h
 ·refine dT ?_;refine Ql ?_;refine kU h fun h=>?_;apply iU h<;>intro h
  ·obtain rfl:=Qi h;exact u3
  refine cP h Xj p1 fun v6 h=>?_;apply iU h<;>intro h
  ·obtain rfl:=Qi h;exact u3
  refine cP h Q0h p1 fun v9 h=>?_;apply iU h<;>intro h
  ·obtain rfl:=Qi h;exact u3
  refine cP h Q6e p1 fun v12 h=>?_;apply iU h<;>intro h
  ·obtain rfl:=Qi h;exact u3
  obtain rfl:=Qi h;exact u3
 refine dT ?_;refine cP h Vh p2 fun v15 h=>?_;apply iU h<;>intro h
 ·refine Ql ?_;refine kU h fun h=>?_;refine kU h fun h=>?_;refine kU h fun h=>?_;refine kU h fun h=>?_;apply iU h<;>intro h
  ·obtain rfl:=Qi h;exact u3
  refine cP h Xj p1 fun v23 h=>?_;apply iU h<;>intro h
  ·obtain rfl:=Qi h;exact u3
  refine cP h Q0h p1 fun v26 h=>?_;apply iU h<;>intro h
  ·obtain rfl:=Qi h;exact u3
  refine cP h Q6e p1 fun v29 h=>?_;apply iU h<;>intro h
  ·obtain rfl:=Qi h;exact u3
  obtain rfl:=Qi h;exact u3
 apply iU h<;>intro h
 ·obtain rfl:=Qi h;exact u3
 obtain rfl:=Qi h;exact u3
def Q0b (N:Nat) (version:Int) (kind:Int) (f:Qa):Option Bool:=
 cond (Q4 .eql kind 10)
 (cond (((f.Topic:List UInt8) == f.Topic)&&(((f.QoS:Int) == f.QoS)&&(((f.NoLocal:Bool) == false)&&(((f.AsPublished:Bool) == false)&&(((f.Handling:Int) == 0)&&true)))))
 (some (Q4 .eql f.QoS 0))
 (some false))
 (cond (Q4 .eql version 4)
 (cond (((f.Topic:List UInt8) == f.Topic)&&(((f.QoS:Int) == f.QoS)&&(((f.NoLocal:Bool) == false)&&(((f.AsPublished:Bool) == false)&&(((f.Handling:Int) == 0)&&true)))))
 ((Jb N f.QoS).bind fun v5=>
 some v5)
 (some false))
 ((Q40 N f.Topic).bind fun v7=>
 (Jb N f.QoS).bind fun v9=>
 cond v9
 ((Jb N f.Handling).bind fun v12=>
 cond v12
 (cond v7.2.2
 (some (!f.NoLocal))
 (some true))
 (some false))
 (some false)))
theorem Qbj {N} {version} {kind} {f} {r} (h:Q0b N version kind f=some r):pU 339 [.int .i64 version,.int .i64 kind,.agg (Qa.cells f)] (.bool r):=by
 refine Q0 Zcl ?_;unfold Q0b at h;rw [cX] at h;apply iU h<;>intro h
 ·exact iB h
 apply iU h<;>intro h
 ·refine iR h fun h=>?_;refine cP h Q3w p1 fun v5 h=>?_;cases h;exact (.p _)
 refine cP h Qgn p1 fun v7 h=>?_;refine cP h Q3w p1 fun v9 h=>?_;refine iR h fun h=>?_;refine cP h Q3w p1 fun v12 h=>?_;refine iR h fun h=>?_;exact iB h
def Q45 (_N:Nat) (code:Int):Option Bool:=
 cond (Q4 .eql code 0)
 (some true)
 (cond (Q4 .eql code 1)
 (some true)
 (cond (Q4 .eql code 2)
 (some true)
 (cond (Q4 .eql code 128)
 (some true)
 (some false))))
theorem Qgz {N} {code} {r} (h:Q45 N code=some r):pU 402 [.int .i64 code] (.bool r):=by
 refine Q0 Zh7 ?_;unfold Q45 at h;rw [cX] at h;refine ifO h (fun hc1 h=>?_) (fun hc1 h=>?_)
 ·refine ifT hc1 ?_;cases h;exact (.p _)
 refine ifO h (fun hc2 h=>?_) (fun hc2 h=>?_)
 ·refine ifT hc2 ?_;cases h;exact (.p _)
 refine ifO h (fun hc3 h=>?_) (fun hc3 h=>?_)
 ·refine ifT hc3 ?_;cases h;exact (.p _)
 exact iB h
def Q0i (N:Nat) (version:Int) (kind:Int) (code:Int):Option Bool:=
 cond (Q4 .eql version 4)
 ((Q45 N code).bind fun v2=>
 some v2)
 ((Q13 N kind code).bind fun v4=>
 some v4)
theorem Qbf {N} {version} {kind} {code} {r} (h:Q0i N version kind code=some r):pU 340 [.int .i64 version,.int .i64 kind,.int .i64 code] (.bool r):=by
 refine Q0 Zol ?_;unfold Q0i at h;rw [cX] at h;apply iU h<;>intro h
 ·refine cP h Qgz p1 fun v2 h=>?_;cases h;exact (.p _)
 refine cP h Q34 p2 fun v4 h=>?_;cases h;exact (.p _)
def Q1v (_N:Nat) (version:Int) (kind:Int):Option Bool:=
 cond (Q4 .eql version 4)
 (cond (Q4 .geq kind 8)
 (some (Q4 .leq kind 11))
 (some false))
 (cond (Q4 .eql version 5)
 (cond (Q4 .geq kind 8)
 (some (Q4 .leq kind 11))
 (some false))
 (some false))
theorem Qd7 {N} {version} {kind} {r} (h:Q1v N version kind=some r):pU 261 [.int .i64 version,.int .i64 kind] (.bool r):=by
 refine Q0 Zg2 ?_;unfold Q1v at h;rw [cX] at h;apply iU h<;>intro h
 ·exact iB h
 refine iR h fun h=>?_;exact iB h
def V7 (N:Nat) (version:Int) (p:Q1):Nat->Int->Option Int
 | 0,_=>none
 | n+1,s52=>
  cond (Q4 .lss s52 ((Q7 (cI .i64) p.Codes).length:Int))
  ((idx p.Codes s52).bind fun y54=>
  (Q0i N version p.Kind y54).bind fun v56=>
  cond (!v56)
  (some 2)
  (V7 N version p n (wrap .i64 (s52+1))))
  (some 0)
def W4 (N:Nat) (version:Int) (p:Q1):Nat->Int->Option Int
 | 0,_=>none
 | n+1,s29=>
  cond (Q4 .lss s29 ((Q7 Qa.cells p.Filters).length:Int))
  ((idx p.Filters s29).bind fun y31=>
  (Q05 N y31.Topic).bind fun v33=>
  cond (!v33)
  (some 10)
  ((Q0b N version p.Kind y31).bind fun v36=>
  cond (!v36)
  (some 2)
  (W4 N version p n (wrap .i64 (s29+1)))))
  (V7 N version p N 0)
def Q1r (N:Nat) (version:Int) (p:Q1):Option Int:=
 (Q1v N version p.Kind).bind fun v1=>
 cond (!v1)
 (some 2)
 ((Q19 N version p).bind fun v4=>
 cond (!v4)
 (some 2)
 ((X6 N p.Kind p.Props).bind fun v7=>
 cond (Q4 .neq v7 0)
 (some v7)
 (W4 N version p N 0)))
theorem Qda {N} {version} {p} {r} (h:Q1r N version p=some r):pU 258 [.int .i64 version,.agg (Q1.cells p)] (.int .i64 r):=by
 refine Q0 Zlx ?_;unfold Q1r at h;rw [cX] at h;refine cP h Qd7 p2 fun v1 h=>?_;refine iL h fun h=>?_;refine cP h Qcm zd fun v4 h=>?_;refine iL h fun h=>?_;refine cP h Xw p2 fun v7 h=>?_;refine iL h fun h=>?_;refine lpH (τ:=Int) (fun s29=>(iI version :: .any :: .any :: .ptr 0 0::a16 (a8 (a2 (.p (.slice 5 (Q7 Qa.cells p.Filters))::iI ((Q7 Qa.cells p.Filters).length:Int)::iI s29::a16 (a8 (a4 ([])))))):List AV)) (fun n0 s29=>W4 N version p n0 s29) (0) h fun n0 s29 h=>?_
 first | rw [W4] at h | simp only [W4] at h
 rw [cX] at h;apply iU h<;>intro h
 ·refine xR h fun y31 h=>?_;refine cP h Q6e p1 fun v33 h=>?_;refine iL h fun h=>?_;refine cP h Qbj (f2_ (.cons (Ap p5) .nil)) fun v36 h=>?_;refine iL h fun h=>?_;show Exists _;exact ⟨(n0,(wrap .i64 (s29+1))),h,Le _,(fun i=>i),Yf⟩
 refine lpH (τ:=Int) (fun s52=>(iI version :: .any :: .any :: .ptr 0 0::a16 (a16 (a8 (a4 (.p (.slice 1 (Q7 (cI .i64) p.Codes)) :: .p (.int .i64 ((Q7 (cI .i64) p.Codes).length:Int))::iI s52::a8 (a2 ([])))))):List AV)) (fun n1 s52=>V7 N version p n1 s52) (0) h fun n1 s52 h=>?_
 first | rw [V7] at h | simp only [V7] at h
 rw [cX] at h;refine iR h fun h=>?_;refine xR h fun y54 h=>?_;refine cP h Qbf p3 fun v56 h=>?_;refine iL h fun h=>?_;show Exists _;exact ⟨(n1,(wrap .i64 (s52+1))),h,Le _,(fun i=>i),Yf⟩
def Q04 (N:Nat) (s_0:List UInt8):Option ((List UInt8)×Int):=
 (Yw N s_0).bind fun v1=>
 cond (!v1)
 (some ([],6))
 ((Gd N s_0).bind fun v4=>
 some (v4,0))
theorem Qa1 {N} {s_0} {r} (h:Q04 N s_0=some r):pU 259 [.str s_0] (.tuple [.str r.1,.int .i64 r.2]):=by
 refine Q0 Za9 ?_;unfold Q04 at h;refine cP h Xj p1 fun v1 h=>?_;refine iL2 h fun h=>?_;refine cP h Q7v p1 fun v4 h=>?_;obtain rfl:=Qi h;exact u2
def Jc (_N:Nat) (f:Qa):Option Int:=
 cond f.NoLocal
 (cond f.AsPublished
 (some (orI .i64 (orI .i64 (orI .i64 (Q7g .i64 f.QoS 3) (Qbp .i64 (Q7g .i64 f.Handling 3) 4)) 4) 8))
 (some (orI .i64 (orI .i64 (Q7g .i64 f.QoS 3) (Qbp .i64 (Q7g .i64 f.Handling 3) 4)) 4)))
 (cond f.AsPublished
 (some (orI .i64 (orI .i64 (Q7g .i64 f.QoS 3) (Qbp .i64 (Q7g .i64 f.Handling 3) 4)) 8))
 (some (orI .i64 (Q7g .i64 f.QoS 3) (Qbp .i64 (Q7g .i64 f.Handling 3) 4))))
theorem Q68 {N} {f} {r} (h:Jc N f=some r):pU 260 [.agg (Qa.cells f)] (.int .i64 r):=by
 refine Q0 Zc5 ?_;unfold Jc at h;apply iU h<;>intro h
 ·exact iB h
 exact iB h
def Wo (N:Nat) (p:Q1):Nat->Int->(List Int)->Option ((List UInt8)×Int)
 | 0,_,_=>none
 | n+1,s76,l77=>
  cond (Q4 .lss s76 ((Q7 (cI .i64) p.Codes).length:Int))
  ((idx p.Codes s76).bind fun y79=>
  cond (Nat.ble ((l77.length+1+4096) * 1) 17592186044416) (Wo N p n (wrap .i64 (s76+1)) (l77 ++ [(wrap .u8 y79)])) none)
  (some ((l77.map fun n=>UInt8.ofNat n.toNat),0))
def Zq (N:Nat) (p:Q1):Nat->Int->(List Int)->Option ((List UInt8)×Int)
 | 0,_,_=>none
 | n+1,s49,l50=>
  cond (Q4 .lss s49 ((Q7 Qa.cells p.Filters).length:Int))
  ((idx p.Filters s49).bind fun y52=>
  (Q04 N y52.Topic).bind fun v54=>
  cond (Nat.beq v54.1.length 0)
  (cond (Q4 .eql p.Kind 8)
  ((Jc N y52).bind fun v58=>
  cond (Nat.ble ((l50.length+1+4096) * 1) 17592186044416) (Zq N p n (wrap .i64 (s49+1)) (l50 ++ [(wrap .u8 v58)])) none)
  (Zq N p n (wrap .i64 (s49+1)) l50))
  (cond (Nat.ble ((l50.length+v54.1.length+4096) * 1) 17592186044416) (cond (Q4 .eql p.Kind 8)
  ((Jc N y52).bind fun v63=>
  cond (Nat.ble (((l50.length+v54.1.length)+1+4096) * 1) 17592186044416) (Zq N p n (wrap .i64 (s49+1)) ((l50++(v54.1.map fun b=>(b.toNat:Int))) ++ [(wrap .u8 v63)])) none)
  (Zq N p n (wrap .i64 (s49+1)) (l50++(v54.1.map fun b=>(b.toNat:Int))))) none))
  (Wo N p N 0 l50)
def J7 (N:Nat) (p:Q1) (l11:List Int):Option ((List UInt8)×Int):=
 Zq N p N 0 l11
def Q0w (N:Nat) (version:Int) (p:Q1):Option ((List UInt8)×Int):=
 (Q1r N version p).bind fun v1=>
 cond (Q4 .neq v1 0)
 (some ([],v1))
 ((X4 N (wrap .u64 p.ID) 2).bind fun v4=>
 cond (Q4 .eql version 5)
 ((V8 N p.Kind p.Props).bind fun v13=>
 cond (Nat.beq v13.1.length 0)
 (J7 N p (v4.map fun b=>(b.toNat:Int)))
 (cond (Nat.ble ((v4.length+v13.1.length+4096) * 1) 17592186044416) (J7 N p ((v4.map fun b=>(b.toNat:Int))++(v13.1.map fun b=>(b.toNat:Int)))) none))
 (J7 N p (v4.map fun b=>(b.toNat:Int))))
theorem Qe2 {N} {version} {p} {r} (h:Q0w N version p=some r):pU 170 [.int .i64 version,.agg (Q1.cells p)] (.tuple [.str r.1,.int .i64 r.2]):=by
 refine Q0 Zgp ?_;unfold Q0w at h;rw [cX] at h;refine cP h Qda zd fun v1 h=>?_;refine iL2 h fun h=>?_;refine cP h Yt p2 fun v4 h=>?_;refine Qj0 (b:=v4) ?_;refine jrA (r:=r) (σ:=(List Int)) (fun l11=>(a2 (.any :: .ptr 0 0::a2 (.any :: .slice 1 2 0 l11.length::a16 (a16 (a16 (a16 (a8 (.any :: []))))))):List AV)) (fun l11=>(.cells (Q2l p ([])) :: .dead :: .cells (Q0g (cI .u8) l11) :: []:List AObj)) (fun l11=>J7 N p l11) ?_ ?_
 ·apply iU h<;>intro h
  ·refine cP h Jq p2 fun v13 h=>?_;refine Qj0 (b:=v13.1) ?_;apply iU h<;>intro h
   ·show Exists _;exact ⟨((v4.map fun b=>(b.toNat:Int))),h,(rho [0,1,1]),Yf⟩
   obtain ⟨hk16,h⟩:=Q48 h;refine Q0r (Zl (c:=(cI .u8)) (e:=1) (l:=(v4.map fun b=>(b.toNat:Int))) (fun _=>rfl) sd hk16) ?_;refine Jv (c:=(cI .u8)) (l:=(v4.map fun b=>(b.toNat:Int))) (v13.1.map fun b=>(b.toNat:Int)) rfl ?_;show Exists _;exact ⟨(((v4.map fun b=>(b.toNat:Int))++(v13.1.map fun b=>(b.toNat:Int)))),h,(fun i=>i),Yf⟩
  show Exists _;exact ⟨((v4.map fun b=>(b.toNat:Int))),h,(rho [0,1,1]),Yf⟩
 rintro l11 h
 unfold J7 at h;refine lpC (τ:=Int×(List Int)) (fun ⟨s49,l50⟩=>(a2 (.any :: .ptr 0 0::a2 (.any :: .slice 1 3 0 l50.length::a16 (a16 (.any :: .p (.slice 5 (Q7 Qa.cells p.Filters))::iI ((Q7 Qa.cells p.Filters).length:Int)::iI s49::a16 (a16 (a4 (.any :: []))))))):List AV)) (fun ⟨_,l50⟩=>(.cells (Q2l p ([])) :: .dead :: .dead :: .cells (Q0g (cI .u8) l50) :: []:List AObj)) (fun n1 ⟨s49,l50⟩=>Zq N p n1 s49 l50) (0,l11) h (rho [0,1,2,2]) Yf fun n1 ⟨s49,l50⟩ h=>?_
 first | rw [Zq] at h | simp only [Zq] at h
 rw [cX] at h;apply iU h<;>intro h
 ·refine xR h fun y52 h=>?_;refine cP h Qa1 p1 fun v54 h=>?_;refine Qj0 (b:=v54.1) ?_;apply iU h<;>intro h
  ·apply iU h<;>intro h
   ·refine cP h Q68 (.cons (Ap p5) .nil) fun v58 h=>?_;obtain ⟨hk60,h⟩:=Q48 h;refine Q0r (Zl (c:=(cI .u8)) (e:=1) (fun _=>rfl) sd hk60) ?_;refine Jv (c:=(cI .u8)) [(wrap .u8 v58)] rfl ?_;show Exists _;exact ⟨(n1,(wrap .i64 (s49+1)),(l50 ++ [(wrap .u8 v58)])),h,Le _,(rho [0,1,2,6]),Yf⟩
   show Exists _;exact ⟨(n1,(wrap .i64 (s49+1)),l50),h,Le _,(fun i=>i),Yf⟩
  obtain ⟨hk61,h⟩:=Q48 h;refine Q0r (Zl (c:=(cI .u8)) (e:=1) (l:=l50) (fun _=>rfl) sd hk61) ?_;refine Jv (c:=(cI .u8)) (l:=l50) (v54.1.map fun b=>(b.toNat:Int)) rfl ?_;apply iU h<;>intro h
  ·refine cP h Q68 (.cons (Ap p5) .nil) fun v63 h=>?_;obtain ⟨hk65,h⟩:=Q48 h;refine Q0r (Zl (c:=(cI .u8)) (e:=1) (fun _=>rfl) sd hk65) ?_;refine Jv (c:=(cI .u8)) [(wrap .u8 v63)] rfl ?_;show Exists _;exact ⟨(n1,(wrap .i64 (s49+1)),((l50++(v54.1.map fun b=>(b.toNat:Int))) ++ [(wrap .u8 v63)])),h,Le _,(rho [0,1,2,7]),Yf⟩
  show Exists _;exact ⟨(n1,(wrap .i64 (s49+1)),(l50++(v54.1.map fun b=>(b.toNat:Int)))),h,Le _,(rho [0,1,2,5]),Yf⟩
 refine lpC (τ:=Int×(List Int)) (fun ⟨s76,l77⟩=>(a4 (a2 (.any :: .slice 1 4 0 l77.length::a16 (a16 (a16 (a8 (a2 (.any :: .p (.slice 1 (Q7 (cI .i64) p.Codes)) :: .p (.int .i64 ((Q7 (cI .i64) p.Codes).length:Int))::iI s76::a8 (a2 (.any :: []))))))))):List AV)) (fun ⟨_,l77⟩=>(.cells (Q2l p ([])) :: .dead :: .dead :: .dead :: .cells (Q0g (cI .u8) l77) :: []:List AObj)) (fun n2 ⟨s76,l77⟩=>Wo N p n2 s76 l77) (0,l50) h (rho [0,1,2,3,3]) Yf fun n2 ⟨s76,l77⟩ h=>?_
 first | rw [Wo] at h | simp only [Wo] at h
 rw [cX] at h;apply iU h<;>intro h
 ·refine xR h fun y79 h=>?_;obtain ⟨hk81,h⟩:=Q48 h;refine Q0r (Zl (c:=(cI .u8)) (e:=1) (fun _=>rfl) sd hk81) ?_;refine Jv (c:=(cI .u8)) [(wrap .u8 y79)] rfl ?_;show Exists _;exact ⟨(n2,(wrap .i64 (s76+1)),(l77 ++ [(wrap .u8 y79)])),h,Le _,(rho [0,1,2,3,6]),Yf⟩
 refine Qjr (l:=l77) (n:=l77.length) sd ?_;obtain rfl:=Qi h;exact u2
def Vb (N:Nat) (d:Zr):Option ((List UInt8)×Int):=
 (Q0w N d.version d.p).bind fun v1=>
 some (v1.1,v1.2)
theorem Jg {N} {d} {r} (h:Vb N d=some r):pU 115 [.agg (Zr.cells d)] (.tuple [.str r.1,.int .i64 r.2]):=by
 refine Q0 Ze1 ?_;unfold Vb at h;refine cP h Qe2 zd fun v1 h=>?_;obtain rfl:=Qi h;exact u2
def Uf (_N:Nat) (a:U3) (version:Int):Option Bool:=
 some false
theorem Q3q {N} {a} {version} {r} (h:Uf N a version=some r):pU 347 [.agg (U3.cells a),.int .i64 version] (.bool r):=by
 refine Q0 Zen ?_;unfold Uf at h;cases h;exact (.p _)
def Gv (_N:Nat) (a:U3) (version:Int):Option Bool:=
 some (Q4 .eql version 5)
theorem Q58 {N} {a} {version} {r} (h:Gv N a version=some r):pU 348 [.agg (U3.cells a),.int .i64 version] (.bool r):=by
 refine Q0 Zor ?_;unfold Gv at h;rw [cX] at h;cases h;exact (.p _)
def Q07 (N:Nat) (version:Int) (kind:Int):Option (Bool×Bool):=
 cond ((kind:Int) == 12)
 ((Uf N (⟨⟩:U3) version).bind fun v2=>
 some (v2,true))
 (cond ((kind:Int) == 13)
 ((Uf N (⟨⟩:U3) version).bind fun v5=>
 some (v5,true))
 (cond ((kind:Int) == 14)
 ((Gv N (⟨⟩:U3) version).bind fun v8=>
 some (v8,true))
 (cond ((kind:Int) == 15)
 ((Gv N (⟨⟩:U3) version).bind fun v11=>
 some (v11,true))
 (some (false,false)))))
theorem Q9j {N} {version} {kind} {r} (h:Q07 N version kind=some r):pU 269 [.int .i64 version,.int .i64 kind] (.tuple [.bool r.1,.bool r.2]):=by
 refine Q0 Zou ?_;unfold Q07 at h;apply iU h<;>intro h
 ·refine cP h Q3q (.cons (Ap .nil) p1) fun v2 h=>?_;obtain rfl:=Qi h;exact u2
 apply iU h<;>intro h
 ·refine cP h Q3q (.cons (Ap .nil) p1) fun v5 h=>?_;obtain rfl:=Qi h;exact u2
 apply iU h<;>intro h
 ·refine cP h Q58 (.cons (Ap .nil) p1) fun v8 h=>?_;obtain rfl:=Qi h;exact u2
 refine iR2 h fun h=>?_;refine cP h Q58 (.cons (Ap .nil) p1) fun v11 h=>?_;obtain rfl:=Qi h;exact u2
def Q35 (N:Nat) (version:Int) (kind:Int):Option Int:=
 (Q07 N version kind).bind fun v1=>
 cond (!v1.2)
 (some 2)
 (cond (Q4 .neq version 4)
 (cond (Q4 .neq version 5)
 (some 2)
 (cond (Q4 .eql kind 15)
 (cond (Q4 .eql version 4)
 (some 8)
 (some 0))
 (some 0)))
 (cond (Q4 .eql kind 15)
 (cond (Q4 .eql version 4)
 (some 8)
 (some 0))
 (some 0)))
theorem Qfm {N} {version} {kind} {r} (h:Q35 N version kind=some r):pU 268 [.int .i64 version,.int .i64 kind] (.int .i64 r):=by
 refine Q0 Zjk ?_;unfold Q35 at h;rw [cX] at h;refine cP h Q9j p2 fun v1 h=>?_;refine iL h fun h=>?_;apply iU h<;>intro h
 ·refine iL h fun h=>?_;refine iR h fun h=>?_;exact iB h
 refine iR h fun h=>?_;exact iB h
def Q37 (N:Nat) (version:Int) (p:Q1):Option Int:=
 (Q35 N version p.Kind).bind fun v1=>
 cond (Q4 .neq v1 0)
 (some v1)
 ((Q07 N version p.Kind).bind fun v4=>
 cond v4.1
 ((Q13 N p.Kind p.Code).bind fun v7=>
 cond (!v7)
 (some 2)
 ((Z5 N p (⟨p.Kind,false,false,0,0,[],[],false,0,[],false,[],false,[],false,(⟨[],[],0,false,[]⟩:Y5),false,p.Code,[],[],p.Props⟩:Q1)).bind fun v10=>
 cond (!v10)
 (some 2)
 ((X6 N p.Kind p.Props).bind fun v13=>
 some v13)))
 ((Z5 N p (⟨p.Kind,false,false,0,0,[],[],false,0,[],false,[],false,[],false,(⟨[],[],0,false,[]⟩:Y5),false,0,[],[],[]⟩:Q1)).bind fun v15=>
 cond (!v15)
 (some 2)
 ((X6 N p.Kind p.Props).bind fun v18=>
 some v18)))
theorem Qel {N} {version} {p} {r} (h:Q37 N version p=some r):pU 266 [.int .i64 version,.agg (Q1.cells p)] (.int .i64 r):=by
 refine Q0 Zea ?_;unfold Q37 at h;rw [cX] at h;refine cP h Qfm p2 fun v1 h=>?_;refine iL h fun h=>?_;refine cP h Q9j p2 fun v4 h=>?_;apply iU h<;>intro h
 ·refine cP h Q34 p2 fun v7 h=>?_;refine iL h fun h=>?_;refine Ql ?_;refine cP h Za (.cons zb (.cons (Ap (Qo (f2_ (f1_ (.cons (.nil _) (f2_ (.cons (.nil _) (.cons (.nil _) p1)))))))) .nil)) fun v10 h=>?_;refine iL h fun h=>?_;refine cP h Xw p2 fun v13 h=>?_;cases h;exact (.p _)
 refine cP h Za (.cons zb (.cons (Ap (Qo (f2_ (f1_ (.cons (.nil _) (f2_ (.cons (.nil _) (.cons (.nil _) (.cons (.nil _) .nil))))))))) .nil)) fun v15 h=>?_;refine iL h fun h=>?_;refine cP h Xw p2 fun v18 h=>?_;cases h;exact (.p _)
def Q6l (N:Nat) (code:Int) (l:List Q6) (kind:Int):Option (List UInt8):=
 (V8 N kind l).bind fun v1=>
 cond (Q4 .lss code 0)
 (some [])
 (cond (Q4 .gtr code 255)
 (some [])
 (cond (Q4 .neq v1.2 0)
 (some [])
 ((X4 N (wrap .u64 code) 1).bind fun v6=>
 cond (Q4 .gtr ((Q7 Q6.cells l).length:Int) 0)
 (cond (Nat.ble (v6.length+v1.1.length) 4611686018427387904) (some (v6++v1.1)) none)
 (cond (Q4 .gtr code 0)
 (some v6)
 (some [])))))
theorem Qh6 {N} {code} {l} {kind} {r} (h:Q6l N code l kind=some r):pU 267 [.int .i64 code,.slice 4 (Q7 Q6.cells l),.int .i64 kind] (.str r):=by
 refine Q0 Zm1 ?_;unfold Q6l at h;rw [cX] at h;refine cP h Jq p2 fun v1 h=>?_;refine iL h fun h=>?_;refine iL h fun h=>?_;refine iL h fun h=>?_;refine cP h Yt p2 fun v6 h=>?_;apply iU h<;>intro h
 ·refine kU h fun h=>?_;cases h;exact (.p _)
 exact iB h
def Q2u (N:Nat) (version:Int) (p:Q1):Option ((List UInt8)×Int):=
 (Q37 N version p).bind fun v1=>
 cond (Q4 .neq v1 0)
 (some ([],v1))
 ((Q6l N p.Code p.Props p.Kind).bind fun v4=>
 some (v4,0))
theorem Qgf {N} {version} {p} {r} (h:Q2u N version p=some r):pU 172 [.int .i64 version,.agg (Q1.cells p)] (.tuple [.str r.1,.int .i64 r.2]):=by
 refine Q0 Zke ?_;unfold Q2u at h;rw [cX] at h;refine cP h Qel zd fun v1 h=>?_;refine iL2 h fun h=>?_;refine cP h Qh6 p3 fun v4 h=>?_;obtain rfl:=Qi h;exact u2
def Uq (N:Nat) (d:Zr):Option ((List UInt8)×Int):=
 (Q2u N d.version d.p).bind fun v1=>
 some (v1.1,v1.2)
theorem Gx {N} {d} {r} (h:Uq N d=some r):pU 117 [.agg (Zr.cells d)] (.tuple [.str r.1,.int .i64 r.2]):=by
 refine Q0 Zh3 ?_;unfold Uq at h;refine cP h Qgf zd fun v1 h=>?_;obtain rfl:=Qi h;exact u2
def Q0x (N:Nat) (version:Int) (p:Q1):Option Bool:=
 (Z5 N p (⟨p.Kind,p.Dup,p.Retain,p.QoS,p.ID,p.Topic,p.Payload,false,0,[],false,[],false,[],false,(⟨[],[],0,false,[]⟩:Y5),false,0,[],[],p.Props⟩:Q1)).bind fun v1=>
 cond (!v1)
 (some false)
 (cond (Q4 .eql version 4)
 (cond (Q4 .gtr ((Q7 Q6.cells p.Props).length:Int) 0)
 (some false)
 (cond (Q4 .eql p.QoS 0)
 (some (Q4 .eql p.ID 0))
 (cond (Q4 .gtr p.ID 0)
 (some (Q4 .lss p.ID 65536))
 (some false))))
 (cond (Q4 .eql p.QoS 0)
 (some (Q4 .eql p.ID 0))
 (cond (Q4 .gtr p.ID 0)
 (some (Q4 .lss p.ID 65536))
 (some false))))
theorem Q7s {N} {version} {p} {r} (h:Q0x N version p=some r):pU 353 [.int .i64 version,.agg (Q1.cells p)] (.bool r):=by
 refine Q0 Zhs ?_;unfold Q0x at h;rw [cX] at h;refine cP h Za (.cons zb (.cons (Ap (Qo (f2_ (f1_ (.cons (.nil _) (f2_ (.cons (.nil _) (.cons (.nil _) p1)))))))) .nil)) fun v1 h=>?_;refine iL h fun h=>?_;apply iU h<;>intro h
 ·refine iL h fun h=>?_;refine iL h fun h=>?_;exact iB h
 refine iL h fun h=>?_;exact iB h
def Jh (_N:Nat) (is:Bool) (e:Int):Option Int:=
 cond is
 (some e)
 (some 0)
theorem Q08 {N} {is} {e} {r} (h:Jh N is e=some r):pU 350 [.bool is,.int .i64 e] (.int .i64 r):=by
 refine Q0 Zdb ?_;unfold Jh at h;exact iB h
def Q2e (N:Nat) (l:List Q6) (id:Int):Nat->Int->Option (Q6×Bool)
 | 0,_=>none
 | n+1,s10=>
  cond (Q4 .lss s10 ((Q7 Q6.cells l).length:Int))
  ((idx l s10).bind fun y12=>
  cond (Q4 .eql y12.ID id)
  (some (y12,true))
  (Q2e N l id n (wrap .i64 (s10+1))))
  (some ((⟨0,0,[],[]⟩:Q6),false))
def Q9e (N:Nat) (l:List Q6) (id:Int):Option (Q6×Bool):=
 Q2e N l id N 0
theorem Qmi {N} {l} {id} {r} (h:Q9e N l id=some r):pU 446 [.slice 4 (Q7 Q6.cells l),.int .i64 id] (.tuple [.agg (Q6.cells r.1),.bool r.2]):=by
 refine Q0 Zd6 ?_;unfold Q9e at h;refine lpH (τ:=Int) (fun s10=>(.any::iI id :: .any :: .any :: .ptr 0 0::a2 (.any :: .p (.slice 4 (Q7 Q6.cells l))::iI ((Q7 Q6.cells l).length:Int)::iI s10::a8 (a2 ([]))):List AV)) (fun n0 s10=>Q2e N l id n0 s10) (0) h fun n0 s10 h=>?_
 first | rw [Q2e] at h | simp only [Q2e] at h
 rw [cX] at h;apply iU h<;>intro h
 ·refine xR h fun y12 h=>?_;apply iU h<;>intro h
  ·obtain rfl:=Qi h;exact (Aq (.cons q4 p1))
  show Exists _;exact ⟨(n0,(wrap .i64 (s10+1))),h,Le _,(fun i=>i),Yf⟩
 obtain rfl:=Qi h;exact (Aq (.cons q4 p1))
def Q5r (N:Nat) (p:Q1):Option (Int×Bool):=
 (Q9e N p.Props 35).bind fun v1=>
 some ((wrap .i64 v1.1.N'),v1.2)
theorem Qeq {N} {p} {r} (h:Q5r N p=some r):pU 406 [.agg (Q1.cells p)] (.tuple [.int .i64 r.1,.bool r.2]):=by
 refine Q0 Zo8 ?_;unfold Q5r at h;refine cP h Qmi p2 fun v1 h=>?_;obtain rfl:=Qi h;exact u2
def Q1s (N:Nat) (version:Int) (p:Q1):Option Bool:=
 (Q5r N p).bind fun v1=>
 (Jx N p.Topic).bind fun v3=>
 cond v3
 (some true)
 (cond (Q4 .eql version 5)
 (cond v1.2
 (some (Q1l .eql p.Topic []))
 (some false))
 (some false))
theorem Q8l {N} {version} {p} {r} (h:Q1s N version p=some r):pU 355 [.int .i64 version,.agg (Q1.cells p)] (.bool r):=by
 refine Q0 Zqg ?_;unfold Q1s at h;rw [cX,cY] at h;refine cP h Qeq zc fun v1 h=>?_;refine cP h Q0h p1 fun v3 h=>?_;refine iL h fun h=>?_;refine iR h fun h=>?_;exact iB h
def Q7q (_N:Nat) (version:Int):Option Bool:=
 cond (Q4 .eql version 4)
 (some true)
 (some (Q4 .eql version 5))
theorem Qfv {N} {version} {r} (h:Q7q N version=some r):pU 272 [.int .i64 version] (.bool r):=by
 refine Q0 Zgg ?_;unfold Q7q at h;rw [cX] at h;exact iB h
def Q8k (_N:Nat) (version:Int):Option Bool:=
 cond (Q4 .eql version 4)
 (some true)
 (some (Q4 .eql version 5))
theorem Qcl {N} {version} {r} (h:Q8k N version=some r):pU 101 [.int .i64 version] (.bool r):=by
 refine Q0 Zag ?_;unfold Q8k at h;rw [cX] at h;exact iB h
def Q4i (_N:Nat) (version:Int) (kind:Int):Option Bool:=
 cond (Q4 .eql version 5)
 (cond (Q4 .geq kind 1)
 (some (Q4 .leq kind 15))
 (some false))
 (cond (Q4 .geq kind 1)
 (some (Q4 .leq kind 14))
 (some false))
theorem Qbs {N} {version} {kind} {r} (h:Q4i N version kind=some r):pU 102 [.int .i64 version,.int .i64 kind] (.bool r):=by
 refine Q0 Zcj ?_;unfold Q4i at h;rw [cX] at h;apply iU h<;>intro h
 ·exact iB h
 exact iB h
def Q4o (_N:Nat) (kind:Int):Option Int:=
 cond (Q4 .eql kind 6)
 (some 2)
 (cond (Q4 .eql kind 8)
 (some 2)
 (cond (Q4 .eql kind 10)
 (some 2)
 (some 0)))
theorem Qcd {N} {kind} {r} (h:Q4o N kind=some r):pU 103 [.int .i64 kind] (.int .i64 r):=by
 refine Q0 Zek ?_;unfold Q4o at h;rw [cX] at h;refine ifO h (fun hc1 h=>?_) (fun hc1 h=>?_)
 ·refine ifT hc1 ?_;cases h;exact (.p _)
 refine ifO h (fun hc2 h=>?_) (fun hc2 h=>?_)
 ·refine ifT hc2 ?_;cases h;exact (.p _)
 exact iB h
def Q1f (N:Nat) (version:Int) (p:Q1):Option (Int×Int):=
 (Q8k N version).bind fun v1=>
 cond (!v1)
 (some (0,2))
 ((Q4i N version p.Kind).bind fun v4=>
 cond (!v4)
 (some (0,8))
 (cond (Q4 .neq p.Kind 3)
 ((Q4o N p.Kind).bind fun v8=>
 some (v8,0))
 (cond (Q4 .lss p.QoS 0)
 (some (0,7))
 (cond (Q4 .gtr p.QoS 2)
 (some (0,7))
 (cond (Q4 .eql p.QoS 0)
 (cond p.Dup
 (some (0,7))
 (cond p.Retain
 (some ((orI .i64 (wrap .i64 (p.QoS * 2)) 1),0))
 (some ((wrap .i64 (p.QoS * 2)),0))))
 (cond p.Retain
 (cond p.Dup
 (some ((orI .i64 (orI .i64 (wrap .i64 (p.QoS * 2)) 1) 8),0))
 (some ((orI .i64 (wrap .i64 (p.QoS * 2)) 1),0)))
 (cond p.Dup
 (some ((orI .i64 (wrap .i64 (p.QoS * 2)) 8),0))
 (some ((wrap .i64 (p.QoS * 2)),0)))))))))
theorem Q7w {N} {version} {p} {r} (h:Q1f N version p=some r):pU 60 [.int .i64 version,.agg (Q1.cells p)] (.tuple [.int .i64 r.1,.int .i64 r.2]):=by
 refine Q0 k60 ?_;unfold Q1f at h;rw [cX] at h;refine cP h Qcl p1 fun v1 h=>?_;refine iL2 h fun h=>?_;refine cP h Qbs p2 fun v4 h=>?_;refine iL2 h fun h=>?_;apply iU h<;>intro h
 ·refine cP h Qcd p1 fun v8 h=>?_;obtain rfl:=Qi h;exact u2
 refine iL2 h fun h=>?_;refine iL2 h fun h=>?_;apply iU h<;>intro h
 ·refine oL2 h fun hc13 h=>?_;apply iU h<;>intro h
  ·refine ifF hc13 ?_;obtain rfl:=Qi h;exact u2
  refine ifF hc13 ?_;obtain rfl:=Qi h;exact u2
 apply iU h<;>intro h
 ·exact iB2 h
 exact iB2 h
def Q36 (N:Nat) (version:Int) (p:Q1):Option Int:=
 (Q7q N version).bind fun v1=>
 cond (!v1)
 ((Jh N true 2).bind fun v4=>
 cond (Q4 .neq v4 0)
 (some v4)
 ((Q1f N version p).bind fun v7=>
 cond (Q4 .neq v7.2 0)
 (some v7.2)
 ((Q0x N version p).bind fun v10=>
 (Jh N (!v10) 2).bind fun v12=>
 cond (Q4 .neq v12 0)
 (some v12)
 ((Q1s N version p).bind fun v15=>
 (Jh N (!v15) 10).bind fun v17=>
 cond (Q4 .neq v17 0)
 (some v17)
 ((X6 N 3 p.Props).bind fun v20=>
 cond (Q4 .neq v20 0)
 (some v20)
 (some 0))))))
 ((Jh N (Q4 .neq p.Kind 3) 2).bind fun v23=>
 cond (Q4 .neq v23 0)
 (some v23)
 ((Q1f N version p).bind fun v26=>
 cond (Q4 .neq v26.2 0)
 (some v26.2)
 ((Q0x N version p).bind fun v29=>
 (Jh N (!v29) 2).bind fun v31=>
 cond (Q4 .neq v31 0)
 (some v31)
 ((Q1s N version p).bind fun v34=>
 (Jh N (!v34) 10).bind fun v36=>
 cond (Q4 .neq v36 0)
 (some v36)
 ((X6 N 3 p.Props).bind fun v39=>
 cond (Q4 .neq v39 0)
 (some v39)
 (some 0))))))
theorem Qf0 {N} {version} {p} {r} (h:Q36 N version p=some r):pU 271 [.int .i64 version,.agg (Q1.cells p)] (.int .i64 r):=by
 refine Q0 Zjc ?_;unfold Q36 at h;rw [cX] at h;refine Qdr 7 ?_;refine dT ?_;refine Zx Zqp ?_;refine cP h Qfv p1 fun v1 h=>?_;apply iU h<;>intro h
 ·refine cP h Q08 p2 fun v4 h=>?_;refine iL h fun h=>?_;refine dT ?_;refine Zx Z8z ?_;refine cP h Q7w zd fun v7 h=>?_;refine iL h fun h=>?_;refine dT ?_;refine Zx Z8l ?_;refine cP h Q7s zd fun v10 h=>?_;refine cP h Q08 p2 fun v12 h=>?_;refine iL h fun h=>?_;refine dT ?_;refine Zx Z8u ?_;refine cP h Q8l zd fun v15 h=>?_;refine cP h Q08 p2 fun v17 h=>?_;refine iL h fun h=>?_;refine dT ?_;refine Zx Z8a ?_;refine cP h Xw p2 fun v20 h=>?_;refine iL h fun h=>?_;refine dF ?_;cases h;exact (.p _)
 refine cP h Q08 p2 fun v23 h=>?_;refine iL h fun h=>?_;refine dT ?_;refine Zx Z8z ?_;refine cP h Q7w zd fun v26 h=>?_;refine iL h fun h=>?_;refine dT ?_;refine Zx Z8l ?_;refine cP h Q7s zd fun v29 h=>?_;refine cP h Q08 p2 fun v31 h=>?_;refine iL h fun h=>?_;refine dT ?_;refine Zx Z8u ?_;refine cP h Q8l zd fun v34 h=>?_;refine cP h Q08 p2 fun v36 h=>?_;refine iL h fun h=>?_;refine dT ?_;refine Zx Z8a ?_;refine cP h Xw p2 fun v39 h=>?_;refine iL h fun h=>?_;refine dF ?_;cases h;exact (.p _)
def Q2v (N:Nat) (version:Int) (p:Q1):Option ((List UInt8)×Int):=
 (Q36 N version p).bind fun v1=>
 cond (Q4 .neq v1 0)
 (some ([],v1))
 ((Q04 N p.Topic).bind fun v4=>
 cond (Q4 .neq p.QoS 0)
 ((X4 N (wrap .u64 p.ID) 2).bind fun v7=>
 cond (Nat.ble (v4.1.length+v7.length) 4611686018427387904) (cond (Q4 .eql version 5)
 ((V8 N p.Kind p.Props).bind fun v11=>
 cond (Nat.ble ((v4.1++v7).length+v11.1.length) 4611686018427387904) (cond (Nat.ble (((v4.1++v7)++v11.1).length+p.Payload.length) 4611686018427387904) (some ((((v4.1++v7)++v11.1)++p.Payload),0)) none) none)
 (cond (Nat.ble ((v4.1++v7).length+p.Payload.length) 4611686018427387904) (some (((v4.1++v7)++p.Payload),0)) none)) none)
 (cond (Q4 .eql version 5)
 ((V8 N p.Kind p.Props).bind fun v17=>
 cond (Nat.ble (v4.1.length+v17.1.length) 4611686018427387904) (cond (Nat.ble ((v4.1++v17.1).length+p.Payload.length) 4611686018427387904) (some (((v4.1++v17.1)++p.Payload),0)) none) none)
 (cond (Nat.ble (v4.1.length+p.Payload.length) 4611686018427387904) (some ((v4.1++p.Payload),0)) none)))
theorem Qgb {N} {version} {p} {r} (h:Q2v N version p=some r):pU 174 [.int .i64 version,.agg (Q1.cells p)] (.tuple [.str r.1,.int .i64 r.2]):=by
 refine Q0 Zfe ?_;unfold Q2v at h;rw [cX] at h;refine cP h Qf0 zd fun v1 h=>?_;refine iL2 h fun h=>?_;refine cP h Qa1 p1 fun v4 h=>?_;apply iU h<;>intro h
 ·refine cP h Yt p2 fun v7 h=>?_;refine kU h fun h=>?_;apply iU h<;>intro h
  ·refine cP h Jq p2 fun v11 h=>?_;refine kU h fun h=>?_;refine kU h fun h=>?_;obtain rfl:=Qi h;exact u2
  refine kU h fun h=>?_;obtain rfl:=Qi h;exact u2
 apply iU h<;>intro h
 ·refine cP h Jq p2 fun v17 h=>?_;refine kU h fun h=>?_;refine kU h fun h=>?_;obtain rfl:=Qi h;exact u2
 refine kU h fun h=>?_;obtain rfl:=Qi h;exact u2
def Q3v (N:Nat) (d:Zr):Option ((List UInt8)×Int):=
 (Q2v N d.version d.p).bind fun v1=>
 some (v1.1,v1.2)
theorem Qap {N} {d} {r} (h:Q3v N d=some r):pU 119 [.agg (Zr.cells d)] (.tuple [.str r.1,.int .i64 r.2]):=by
 refine Q0 Ze0 ?_;unfold Q3v at h;refine cP h Qgb zd fun v1 h=>?_;obtain rfl:=Qi h;exact u2
theorem Qey:pU 66 [] (.pmap [(.int .i64 1,.agg [.func (.func 111) [] [],.func (.func 112) [] []]),(.int .i64 2,.agg [.func (.func 111) [] [],.func (.func 112) [] []]),(.int .i64 3,.agg [.func (.func 119) [] [],.func (.func 120) [] []]),(.int .i64 4,.agg [.func (.func 113) [] [],.func (.func 114) [] []]),(.int .i64 5,.agg [.func (.func 113) [] [],.func (.func 114) [] []]),(.int .i64 6,.agg [.func (.func 113) [] [],.func (.func 114) [] []]),(.int .i64 7,.agg [.func (.func 113) [] [],.func (.func 114) [] []]),(.int .i64 8,.agg [.func (.func 115) [] [],.func (.func 116) [] []]),(.int .i64 9,.agg [.func (.func 115) [] [],.func (.func 116) [] []]),(.int .i64 10,.agg [.func (.func 115) [] [],.func (.func 116) [] []]),(.int .i64 11,.agg [.func (.func 115) [] [],.func (.func 116) [] []]),(.int .i64 12,.agg [.func (.func 117) [] [],.func (.func 118) [] []]),(.int .i64 13,.agg [.func (.func 117) [] [],.func (.func 118) [] []]),(.int .i64 14,.agg [.func (.func 117) [] [],.func (.func 118) [] []]),(.int .i64 15,.agg [.func (.func 117) [] [],.func (.func 118) [] []])]):=Uu Qbb (N:=2000) (d:=60) (by kernel_rfl)
def Q1i (N:Nat) (version:Int) (p:Q1) (s6:Bool):Option ((List UInt8)×Int):=
 cond s6
 (some ([],2))
 (cond ((p.Kind:Int) == 1)
 ((Q1p N (⟨version,p⟩:Zr)).bind fun v10=>
 cond (Q4 .neq v10.2 0)
 (some ([],v10.2))
 (cond (Q4 .gtr (v10.1.length:Int) 268435455)
 (some ([],4))
 (some (v10.1,0))))
 (cond ((p.Kind:Int) == 2)
 ((Q1p N (⟨version,p⟩:Zr)).bind fun v15=>
 cond (Q4 .neq v15.2 0)
 (some ([],v15.2))
 (cond (Q4 .gtr (v15.1.length:Int) 268435455)
 (some ([],4))
 (some (v15.1,0))))
 (cond ((p.Kind:Int) == 3)
 ((Q3v N (⟨version,p⟩:Zr)).bind fun v20=>
 cond (Q4 .neq v20.2 0)
 (some ([],v20.2))
 (cond (Q4 .gtr (v20.1.length:Int) 268435455)
 (some ([],4))
 (some (v20.1,0))))
 (cond ((p.Kind:Int) == 4)
 ((Q0v N (⟨version,p⟩:Zr)).bind fun v25=>
 cond (Q4 .neq v25.2 0)
 (some ([],v25.2))
 (cond (Q4 .gtr (v25.1.length:Int) 268435455)
 (some ([],4))
 (some (v25.1,0))))
 (cond ((p.Kind:Int) == 5)
 ((Q0v N (⟨version,p⟩:Zr)).bind fun v30=>
 cond (Q4 .neq v30.2 0)
 (some ([],v30.2))
 (cond (Q4 .gtr (v30.1.length:Int) 268435455)
 (some ([],4))
 (some (v30.1,0))))
 (cond ((p.Kind:Int) == 6)
 ((Q0v N (⟨version,p⟩:Zr)).bind fun v35=>
 cond (Q4 .neq v35.2 0)
 (some ([],v35.2))
 (cond (Q4 .gtr (v35.1.length:Int) 268435455)
 (some ([],4))
 (some (v35.1,0))))
 (cond ((p.Kind:Int) == 7)
 ((Q0v N (⟨version,p⟩:Zr)).bind fun v40=>
 cond (Q4 .neq v40.2 0)
 (some ([],v40.2))
 (cond (Q4 .gtr (v40.1.length:Int) 268435455)
 (some ([],4))
 (some (v40.1,0))))
 (cond ((p.Kind:Int) == 8)
 ((Vb N (⟨version,p⟩:Zr)).bind fun v45=>
 cond (Q4 .neq v45.2 0)
 (some ([],v45.2))
 (cond (Q4 .gtr (v45.1.length:Int) 268435455)
 (some ([],4))
 (some (v45.1,0))))
 (cond ((p.Kind:Int) == 9)
 ((Vb N (⟨version,p⟩:Zr)).bind fun v50=>
 cond (Q4 .neq v50.2 0)
 (some ([],v50.2))
 (cond (Q4 .gtr (v50.1.length:Int) 268435455)
 (some ([],4))
 (some (v50.1,0))))
 (cond ((p.Kind:Int) == 10)
 ((Vb N (⟨version,p⟩:Zr)).bind fun v55=>
 cond (Q4 .neq v55.2 0)
 (some ([],v55.2))
 (cond (Q4 .gtr (v55.1.length:Int) 268435455)
 (some ([],4))
 (some (v55.1,0))))
 (cond ((p.Kind:Int) == 11)
 ((Vb N (⟨version,p⟩:Zr)).bind fun v60=>
 cond (Q4 .neq v60.2 0)
 (some ([],v60.2))
 (cond (Q4 .gtr (v60.1.length:Int) 268435455)
 (some ([],4))
 (some (v60.1,0))))
 (cond ((p.Kind:Int) == 12)
 ((Uq N (⟨version,p⟩:Zr)).bind fun v65=>
 cond (Q4 .neq v65.2 0)
 (some ([],v65.2))
 (cond (Q4 .gtr (v65.1.length:Int) 268435455)
 (some ([],4))
 (some (v65.1,0))))
 (cond ((p.Kind:Int) == 13)
 ((Uq N (⟨version,p⟩:Zr)).bind fun v70=>
 cond (Q4 .neq v70.2 0)
 (some ([],v70.2))
 (cond (Q4 .gtr (v70.1.length:Int) 268435455)
 (some ([],4))
 (some (v70.1,0))))
 (cond ((p.Kind:Int) == 14)
 ((Uq N (⟨version,p⟩:Zr)).bind fun v75=>
 cond (Q4 .neq v75.2 0)
 (some ([],v75.2))
 (cond (Q4 .gtr (v75.1.length:Int) 268435455)
 (some ([],4))
 (some (v75.1,0))))
 (cond ((p.Kind:Int) == 15)
 (cond (Q4 .eql version 4)
 (some ([],8))
 ((Uq N (⟨version,p⟩:Zr)).bind fun v82=>
 cond (Q4 .neq v82.2 0)
 (some ([],v82.2))
 (cond (Q4 .gtr (v82.1.length:Int) 268435455)
 (some ([],4))
 (some (v82.1,0)))))
 (some ([],8)))))))))))))))))
def Q6a (N:Nat) (version:Int) (p:Q1):Option ((List UInt8)×Int):=
 cond (Q4 .neq version 4)
 (Q1i N version p (Q4 .neq version 5))
 (Q1i N version p false)
theorem Qdd {N} {version} {p} {r} (h:Q6a N version p=some r):pU 47 [.int .i64 version,.agg (Q1.cells p)] (.tuple [.str r.1,.int .i64 r.2]):=by
 refine Q0 k47 ?_;unfold Q6a at h;rw [cX] at h;refine Y1 ?_;refine jrH (r:=r) (σ:=Bool) (fun s6=>(iI version :: .any :: .any :: .ptr 0 0::a8 (a2 (.any :: .p (.bool s6)::a16 (a16 (a2 ([]))))):List AV)) (fun s6=>Q1i N version p s6) ?_ ?_
 ·apply iU h<;>intro h
  ·show Exists _;exact ⟨((Qmr .neq version 5)),h,(fun i=>i),Yf⟩
  show Exists _;exact ⟨(false),h,(fun i=>i),Yf⟩
 rintro s6 h
 unfold Q1i at h;rw [cX] at h;refine iL2 h fun h=>?_;refine Ql ?_;refine Q52 Qey .nil ?_;refine Q7p h (fun hc9 h=>?_) (fun hc9 h=>?_)
 ·refine Y1 ?_;refine Y1 ?_;refine ifF (Qqk hc9 (by decide)) ?_;refine cP h Q5e (.cons (Ap (Qo (f4_ (.cons (.p _) p5)))) .nil) fun v10 h=>?_;refine iL2 h fun h=>?_;exact iB2 h
 refine Q7p h (fun hc14 h=>?_) (fun hc14 h=>?_)
 ·refine Y1 ?_;refine Y1 ?_;refine ifF (Qqk hc14 (by decide)) ?_;refine cP h Q5e (.cons (Ap (Qo (f4_ (.cons (.p _) p5)))) .nil) fun v15 h=>?_;refine iL2 h fun h=>?_;exact iB2 h
 refine Q7p h (fun hc19 h=>?_) (fun hc19 h=>?_)
 ·refine Y1 ?_;refine Y1 ?_;refine ifF (Qqk hc19 (by decide)) ?_;refine cP h Qap (.cons (Ap (Qo (f4_ (.cons (.p _) p5)))) .nil) fun v20 h=>?_;refine iL2 h fun h=>?_;exact iB2 h
 refine Q7p h (fun hc24 h=>?_) (fun hc24 h=>?_)
 ·refine Y1 ?_;refine Y1 ?_;refine ifF (Qqk hc24 (by decide)) ?_;refine cP h Q2a (.cons (Ap (Qo (f4_ (.cons (.p _) p5)))) .nil) fun v25 h=>?_;refine iL2 h fun h=>?_;exact iB2 h
 refine Q7p h (fun hc29 h=>?_) (fun hc29 h=>?_)
 ·refine Y1 ?_;refine Y1 ?_;refine ifF (Qqk hc29 (by decide)) ?_;refine cP h Q2a (.cons (Ap (Qo (f4_ (.cons (.p _) p5)))) .nil) fun v30 h=>?_;refine iL2 h fun h=>?_;exact iB2 h
 refine Q7p h (fun hc34 h=>?_) (fun hc34 h=>?_)
 ·refine Y1 ?_;refine Y1 ?_;refine ifF (Qqk hc34 (by decide)) ?_;refine cP h Q2a (.cons (Ap (Qo (f4_ (.cons (.p _) p5)))) .nil) fun v35 h=>?_;refine iL2 h fun h=>?_;exact iB2 h
 refine Q7p h (fun hc39 h=>?_) (fun hc39 h=>?_)
 ·refine Y1 ?_;refine Y1 ?_;refine ifF (Qqk hc39 (by decide)) ?_;refine cP h Q2a (.cons (Ap (Qo (f4_ (.cons (.p _) p5)))) .nil) fun v40 h=>?_;refine iL2 h fun h=>?_;exact iB2 h
 refine Q7p h (fun hc44 h=>?_) (fun hc44 h=>?_)
 ·refine Y1 ?_;refine Y1 ?_;refine ifF (Qqk hc44 (by decide)) ?_;refine cP h Jg (.cons (Ap (Qo (f4_ (.cons (.p _) p5)))) .nil) fun v45 h=>?_;refine iL2 h fun h=>?_;exact iB2 h
 refine Q7p h (fun hc49 h=>?_) (fun hc49 h=>?_)
 ·refine Y1 ?_;refine Y1 ?_;refine ifF (Qqk hc49 (by decide)) ?_;refine cP h Jg (.cons (Ap (Qo (f4_ (.cons (.p _) p5)))) .nil) fun v50 h=>?_;refine iL2 h fun h=>?_;exact iB2 h
 refine Q7p h (fun hc54 h=>?_) (fun hc54 h=>?_)
 ·refine Y1 ?_;refine Y1 ?_;refine ifF (Qqk hc54 (by decide)) ?_;refine cP h Jg (.cons (Ap (Qo (f4_ (.cons (.p _) p5)))) .nil) fun v55 h=>?_;refine iL2 h fun h=>?_;exact iB2 h
 refine Q7p h (fun hc59 h=>?_) (fun hc59 h=>?_)
 ·refine Y1 ?_;refine Y1 ?_;refine ifF (Qqk hc59 (by decide)) ?_;refine cP h Jg (.cons (Ap (Qo (f4_ (.cons (.p _) p5)))) .nil) fun v60 h=>?_;refine iL2 h fun h=>?_;exact iB2 h
 refine Q7p h (fun hc64 h=>?_) (fun hc64 h=>?_)
 ·refine Y1 ?_;refine Y1 ?_;refine ifF (Qqk hc64 (by decide)) ?_;refine cP h Gx (.cons (Ap (Qo (f4_ (.cons (.p _) p5)))) .nil) fun v65 h=>?_;refine iL2 h fun h=>?_;exact iB2 h
 refine Q7p h (fun hc69 h=>?_) (fun hc69 h=>?_)
 ·refine Y1 ?_;refine Y1 ?_;refine ifF (Qqk hc69 (by decide)) ?_;refine cP h Gx (.cons (Ap (Qo (f4_ (.cons (.p _) p5)))) .nil) fun v70 h=>?_;refine iL2 h fun h=>?_;exact iB2 h
 refine Q7p h (fun hc74 h=>?_) (fun hc74 h=>?_)
 ·refine Y1 ?_;refine Y1 ?_;refine ifF (Qqk hc74 (by decide)) ?_;refine cP h Gx (.cons (Ap (Qo (f4_ (.cons (.p _) p5)))) .nil) fun v75 h=>?_;refine iL2 h fun h=>?_;exact iB2 h
 refine Q7p h (fun hc79 h=>?_) (fun hc79 h=>?_)
 ·refine Y1 ?_;refine Y1 ?_;refine ifT (Qqk hc79 (by decide)) ?_;refine iL2 h fun h=>?_;refine cP h Gx (.cons (Ap (Qo (f4_ (.cons (.p _) p5)))) .nil) fun v82 h=>?_;refine iL2 h fun h=>?_;exact iB2 h
 refine Z6d ?_;refine Y1 ?_;refine Y1 ?_;obtain rfl:=Qi h;exact u2
def Q23 (N:Nat) (version:Int) (p:Q1):Option Int:=
 (Q6a N version p).bind fun v1=>
 some v1.2
theorem Q7z {N} {version} {p} {r} (h:Q23 N version p=some r):pU 23 [.int .i64 version,.agg (Q1.cells p)] (.int .i64 r):=by
 refine Q0 k23 ?_;unfold Q23 at h;refine cP h Qdd zd fun v1 h=>?_;cases h;exact (.p _)
def Q3g (_N:Nat) (proto:Int) (p:Q1):Option Qd:=
 some (⟨proto,2,[],[],0,false,false,0,[],0,[],0,p,(⟨0,(⟨false,0,false,false,false,0⟩:Q26),0,0,0,false,0,0,0,[],[]⟩:Qbr),(⟨0,0,[],[]⟩:Y2)⟩:Qd)
theorem Q9x {N} {proto} {p} {r} (h:Q3g N proto p=some r):pU 24 [.int .i64 proto,.agg (Q1.cells p)] (.agg (Qd.cells r)):=by
 refine Q0 k24 ?_;unfold Q3g at h;obtain rfl:=Qi h;exact (Ap (f8_ (.cons (.nil _) (.cons (.p _) (.cons (.nil _) (Qo (Qo (f8_ (f4_ (f1_ (.cons (.nil _) .nil)))))))))))
def Q27 (_N:Nat) (proto:Int) (p:Q1):Option Qd:=
 some (⟨proto,1,p.Topic,p.Payload,p.QoS,p.Retain,p.Dup,p.ID,p.Props,0,[],0,(⟨0,false,false,0,0,[],[],false,0,[],false,[],false,[],false,(⟨[],[],0,false,[]⟩:Y5),false,0,[],[],[]⟩:Q1),(⟨0,(⟨false,0,false,false,false,0⟩:Q26),0,0,0,false,0,0,0,[],[]⟩:Qbr),(⟨0,0,[],[]⟩:Y2)⟩:Qd)
theorem Q8e {N} {proto} {p} {r} (h:Q27 N proto p=some r):pU 25 [.int .i64 proto,.agg (Q1.cells p)] (.agg (Qd.cells r)):=by
 refine Q0 k25 ?_;unfold Q27 at h;obtain rfl:=Qi h;exact (Ap (f8_ (f2_ (.cons (.nil _) (Qo (f4_ (.cons (.nil _) (f2_ (.cons (.nil _) (.cons (.nil _) (.cons (.nil _) (Qo (f2_ (f1_ (.cons (.nil _) .nil)))))))))))))))
def Q7k (N:Nat) (p:Q1):Option (Q1):=
 (Qaj N p.Codes).bind fun v1=>
 (Q6i N p.Filters).bind fun v3=>
 (Q4j N p.Props).bind fun v5=>
 (Q4j N p.Will.Props).bind fun v7=>
 some (⟨p.Kind,p.Dup,p.Retain,p.QoS,p.ID,p.Topic,p.Payload,p.Clean,p.KeepAlive,p.Client,p.HasUser,p.User,p.HasPass,p.Pass,p.HasWill,(⟨p.Will.Topic,p.Will.Payload,p.Will.QoS,p.Will.Retain,v7⟩:Y5),p.Session,p.Code,v1,v3,v5⟩:Q1)
theorem Qkt {N} {p} {r} (h:Q7k N p=some r):pU 50 [.agg (Q1.cells p)] (.agg (Q1.cells r)):=by
 refine Q0 k50 ?_;unfold Q7k at h;refine Ql ?_;refine dcO h Qik [2] (fun v1 => .slice 1 2 0 v1.length) (rE rfl <| rN) fun v1 h=>?_;refine dcO h Qeh [3] (fun v3 => .slice 5 3 0 v3.length) (rE rfl <| rN) fun v3 h=>?_;refine Ql ?_;refine dcO h Q73 [4] (fun v5 => .slice 4 4 0 v5.length) (rE rfl <| rN) fun v5 h=>?_;refine dcO h Q73 [5] (fun v7 => .slice 4 5 0 v7.length) (rE rfl <| rN) fun v7 h=>?_;obtain rfl:=Qi h;exact (Ap (Qo (f2_ (f1_ (.cons (frz_own (c:=Q6.cells) (l:=(v7:List Q6)) (fun _=>rfl) rfl trivial sd) (f2_ (.cons (frz_own (c:=(cI .i64)) (l:=(v1:List Int)) (fun _=>rfl) rfl trivial sd) (.cons (frz_own (c:=Qa.cells) (l:=(v3:List Qa)) (fun _=>rfl) rfl trivial sd) (.cons (frz_own (c:=Q6.cells) (l:=(v5:List Q6)) (fun _=>rfl) rfl trivial sd) .nil)))))))))
def Q1c (rz:Q2->Option Q2) (N:Nat) (v:Q2):Nat->Int->(List Q2)->Option Q2
 | 0,_,_=>none
 | n+1,s14,l15=>
  cond (Q4 .lss s14 ((Q2.rows v.Items).length:Int))
  ((idx v.Items s14).bind fun y17=>
  (rz y17).bind fun v19=>
  cond (Nat.ble ((l15.length+1+4096) * 56) 17592186044416) (Q1c rz N v n (wrap .i64 (s14+1)) (l15 ++ [v19])) none)
  (some (⟨v.Kind,v.N',v.Text,l15⟩:Q2))
def Q7m (rz:Q2->Option Q2) (N:Nat) (v:Q2):Option Q2:=
 Q1c rz N v N 0 []
theorem Qfb {rz:Q2->Option Q2} (hy1:∀ {v} {r},rz v=some r->pU 51 [.agg (Q2.cells v)] (.agg (Q2.cells r))) {N} {v} {r} (h:Q7m rz N v=some r):pU 51 [.agg (Q2.cells v)] (.agg (Q2.cells r)):=by
 refine Q0 k51 ?_;unfold Q7m at h;refine lpA (τ:=Int×(List Q2)) (fun ⟨s14,_⟩=>(.any :: .any :: .ptr 1 0 :: .ptr 2 0::a8 (a2 (.p (.slice 4 (Q2.rows v.Items))::iI ((Q2.rows v.Items).length:Int)::iI s14::a8 (a4 ([])))):List AV)) (fun ⟨_,l15⟩=>(.cells (iI v.Kind::iW v.N'::iS v.Text :: .p (.slice 4 (Q2.rows v.Items)) :: []) :: .cells (iI 0::iW 0::iS [] :: .p .nilSlice :: []) :: .cells (iI v.Kind::iW v.N'::iS v.Text :: .slice 4 3 0 l15.length :: []) :: .cells (Q0g Q2.cells l15) :: []:List AObj)) (fun n0 ⟨s14,l15⟩=>Q1c rz N v n0 s14 l15) (0,[]) h fun n0 ⟨s14,l15⟩ h=>?_
 first | rw [Q1c] at h | simp only [Q1c] at h
 rw [cX] at h;apply iU h<;>intro h
 ·refine Q2.xR h fun y17 h=>?_;refine Ql ?_;refine cD h hy1 (.cons q4 .nil) fun v19 h=>?_;obtain ⟨hk21,h⟩:=Q48 h;refine Q0r (Zl (c:=Q2.cells) (e:=4) (fun _=>rfl) sd hk21) ?_;refine Jv (c:=Q2.cells) [v19] rfl ?_;show Exists _;exact ⟨(n0,(wrap .i64 (s14+1)),(l15 ++ [v19])),h,Le _,(rho [0,1,2,6]),Yf⟩
 obtain rfl:=Qi h;exact (Ap (f2_ (f1_ (.cons (Q2.frz_own (l:=l15) rfl trivial sd) .nil))))
def Q5l:Nat->Q2->Option Q2
 | 0=>fun _=>none
 | N+1=>Q7m (Q5l N) N
theorem Qf5 {N} {v} {r} (h:Q5l N v=some r):pU 51 [.agg (Q2.cells v)] (.agg (Q2.cells r)):=by
 induction N generalizing v r with
 | zero=>simp [Q5l] at h
 | succ N ih=>exact Qfb (fun h=>ih h) h
def Q39 (N:Nat) (e:Qd) (v1:List Q6) (v3:List Q09) (v5:Q1):Nat->Int->(List Q2)->Option Qd
 | 0,_,_=>none
 | n+1,s20,l21=>
  cond (Q4 .lss s20 ((Q2.rows e.Frame.Values).length:Int))
  ((idx e.Frame.Values s20).bind fun y23=>
  (Q5l N y23).bind fun v25=>
  cond (Nat.ble ((l21.length+1+4096) * 56) 17592186044416) (Q39 N e v1 v3 v5 n (wrap .i64 (s20+1)) (l21 ++ [v25])) none)
  (some (⟨e.Proto,e.Kind,e.Topic,e.Payload,e.QoS,e.Retain,e.Dup,e.ID,v1,e.Type',v3,e.Channel,v5,e.Msg,(⟨e.Frame.Type',e.Frame.Channel,e.Frame.Ext,l21⟩:Y2)⟩:Qd))
def Q15 (N:Nat) (e:Qd):Option Qd:=
 (Q4j N e.Props).bind fun v1=>
 (Qa6 N e.Hops).bind fun v3=>
 (Q7k N e.Packet).bind fun v5=>
 Q39 N e v1 v3 v5 N 0 []
theorem Q5k {N} {e} {r} (h:Q15 N e=some r):pU 26 [.agg (Qd.cells e)] (.agg (Qd.cells r)):=by
 refine Q0 k26 ?_;unfold Q15 at h;refine cO h Q73 (fun v1 => .slice 4 3 0 v1.length) (rE rfl <| rN) fun v1 h=>?_;refine cO h Qjq (fun v3 => .slice 2 4 0 v3.length) (rE rfl <| rN) fun v3 h=>?_;refine cP h Qkt zc fun v5 h=>?_;refine lpA (τ:=Int×(List Q2)) (fun ⟨s20,_⟩=>(.any :: .any :: .ptr 1 0 :: .ptr 2 0::a16 (a2 (.any :: .p (.slice 4 (Q2.rows e.Frame.Values))::iI ((Q2.rows e.Frame.Values).length:Int)::iI s20::a8 (a4 (a2 ([]))))):List AV)) (fun ⟨_,l21⟩=>(.cells (Q6j e ([])) :: .cells (iI 0::iI 0::iS []::iS []::iI 0 :: .p (.bool false) :: .p (.bool false)::iI 0 :: .p .nilSlice::iI 0 :: .p .nilSlice::iI 0::iI 0 :: .p (.bool false) :: .p (.bool false)::iI 0::iI 0::iS []::iS [] :: .p (.bool false)::iI 0::iS [] :: .p (.bool false)::iS [] :: .p (.bool false)::iS [] :: .p (.bool false)::iS []::iS []::iI 0 :: .p (.bool false) :: .p .nilSlice :: .p (.bool false)::iI 0 :: .p .nilSlice :: .p .nilSlice :: .p .nilSlice::iI 0 :: .p (.bool false)::iI 0 :: .p (.bool false) :: .p (.bool false) :: .p (.bool false)::iI 0::iI 0::iI 0::iI 0 :: .p (.bool false)::iI 0::iI 0::iI 0::iS []::iS []::iI 0::iI 0::iS [] :: .p .nilSlice :: []) :: .cells (iI e.Proto::iI e.Kind::iS e.Topic::iS e.Payload::iI e.QoS :: .p (.bool e.Retain) :: .p (.bool e.Dup)::iI e.ID :: .slice 4 3 0 v1.length::iI e.Type' :: .slice 2 4 0 v3.length::iI e.Channel::Q2l v5 (Qo0 e.Msg (iI e.Frame.Type'::iI e.Frame.Channel::iS e.Frame.Ext :: .slice 4 5 0 l21.length :: []))) :: .cells (Q0g Q6.cells v1) :: .cells (Q0g Q09.cells v3) :: .cells (Q0g Q2.cells l21) :: []:List AObj)) (fun n0 ⟨s20,l21⟩=>Q39 N e v1 v3 v5 n0 s20 l21) (0,[]) h fun n0 ⟨s20,l21⟩ h=>?_
 first | rw [Q39] at h | simp only [Q39] at h
 rw [cX] at h;apply iU h<;>intro h
 ·refine Q2.xR h fun y23 h=>?_;refine Ql ?_;refine cD h Qf5 (.cons q4 .nil) fun v25 h=>?_;obtain ⟨hk27,h⟩:=Q48 h;refine Q0r (Zl (c:=Q2.cells) (e:=4) (fun _=>rfl) sd hk27) ?_;refine Jv (c:=Q2.cells) [v25] rfl ?_;show Exists _;exact ⟨(n0,(wrap .i64 (s20+1)),(l21 ++ [v25])),h,Le _,(rho [0,1,2,3,4,8]),Yf⟩
 obtain rfl:=Qi h;exact (Ap (f8_ (.cons (frz_own (c:=Q6.cells) (l:=(v1:List Q6)) (fun _=>rfl) rfl trivial sd) (.cons (.p _) (.cons (frz_own (c:=Q09.cells) (l:=(v3:List Q09)) (fun _=>rfl) rfl trivial sd) (Qo (Qo (f8_ (f4_ (f1_ (.cons (Q2.frz_own (l:=l21) rfl trivial sd) .nil)))))))))))
def Gc (_N:Nat) (version:Int):Option (Int×Bool):=
 cond (Q4 .eql version 4)
 (some (1,true))
 (cond (Q4 .eql version 5)
 (some (2,true))
 (some (0,false)))
theorem Q85 {N} {version} {r} (h:Gc N version=some r):pU 15 [.int .i64 version] (.tuple [.int .i64 r.1,.bool r.2]):=by
 refine Q0 k15 ?_;unfold Gc at h;rw [cX] at h;refine iL2 h fun h=>?_;exact iB2 h
def Q3l (N:Nat) (version:Int) (p:Q1):Option (Qd×Int):=
 (Gc N version).bind fun v1=>
 cond (!v1.2)
 (some ((⟨0,0,[],[],0,false,false,0,[],0,[],0,(⟨0,false,false,0,0,[],[],false,0,[],false,[],false,[],false,(⟨[],[],0,false,[]⟩:Y5),false,0,[],[],[]⟩:Q1),(⟨0,(⟨false,0,false,false,false,0⟩:Q26),0,0,0,false,0,0,0,[],[]⟩:Qbr),(⟨0,0,[],[]⟩:Y2)⟩:Qd),2))
 ((Q23 N version p).bind fun v4=>
 cond (Q4 .neq v4 0)
 (some ((⟨0,0,[],[],0,false,false,0,[],0,[],0,(⟨0,false,false,0,0,[],[],false,0,[],false,[],false,[],false,(⟨[],[],0,false,[]⟩:Y5),false,0,[],[],[]⟩:Q1),(⟨0,(⟨false,0,false,false,false,0⟩:Q26),0,0,0,false,0,0,0,[],[]⟩:Qbr),(⟨0,0,[],[]⟩:Y2)⟩:Qd),v4))
 (cond (Q4 .eql p.Kind 3)
 (cond (Q1l .eql p.Topic [])
 (some ((⟨0,0,[],[],0,false,false,0,[],0,[],0,(⟨0,false,false,0,0,[],[],false,0,[],false,[],false,[],false,(⟨[],[],0,false,[]⟩:Y5),false,0,[],[],[]⟩:Q1),(⟨0,(⟨false,0,false,false,false,0⟩:Q26),0,0,0,false,0,0,0,[],[]⟩:Qbr),(⟨0,0,[],[]⟩:Y2)⟩:Qd),11))
 ((Q27 N v1.1 p).bind fun v9=>
 (Q15 N v9).bind fun v11=>
 some (v11,0)))
 ((Q3g N v1.1 p).bind fun v13=>
 (Q15 N v13).bind fun v15=>
 some (v15,0))))
theorem Qba {N} {version} {p} {r} (h:Q3l N version p=some r):pU 7 [.int .i64 version,.agg (Q1.cells p)] (.tuple [.agg (Qd.cells r.1),.int .i64 r.2]):=by
 refine Q0 k7 ?_;unfold Q3l at h;rw [cX,cY] at h;refine cP h Q85 p1 fun v1 h=>?_;apply iU h<;>intro h
 ·obtain rfl:=Qi h;exact (Aq (.cons (Ap (f8_ (.cons (.nil _) (.cons (.p _) (.cons (.nil _) (Qo (f4_ (.cons (.nil _) (f2_ (.cons (.nil _) (.cons (.nil _) (.cons (.nil _) (Qo (f2_ (f1_ (.cons (.nil _) .nil)))))))))))))))) p1))
 refine cP h Q7z zd fun v4 h=>?_;apply iU h<;>intro h
 ·obtain rfl:=Qi h;exact (Aq (.cons (Ap (f8_ (.cons (.nil _) (.cons (.p _) (.cons (.nil _) (Qo (f4_ (.cons (.nil _) (f2_ (.cons (.nil _) (.cons (.nil _) (.cons (.nil _) (Qo (f2_ (f1_ (.cons (.nil _) .nil)))))))))))))))) p1))
 apply iU h<;>intro h
 ·apply iU h<;>intro h
  ·obtain rfl:=Qi h;exact (Aq (.cons (Ap (f8_ (.cons (.nil _) (.cons (.p _) (.cons (.nil _) (Qo (f4_ (.cons (.nil _) (f2_ (.cons (.nil _) (.cons (.nil _) (.cons (.nil _) (Qo (f2_ (f1_ (.cons (.nil _) .nil)))))))))))))))) p1))
  refine cP h Q8e zd fun v9 h=>?_;refine cP h Q5k p1 fun v11 h=>?_;obtain rfl:=Qi h;exact (Aq (.cons (Ap (Qo (Qo (Qo za)))) p1))
 refine cP h Q9x zd fun v13 h=>?_;refine cP h Q5k p1 fun v15 h=>?_;obtain rfl:=Qi h;exact (Aq (.cons (Ap (Qo (Qo (Qo za)))) p1))
def Q1b (N:Nat):Option Bool:=
 (Q5y N).bind fun v1=>
 (Q3l N 4 v1).bind fun v3=>
 cond (Q4 .eql v3.2 0)
 (cond (Q4 .eql v3.1.Proto 1)
 (cond (Q4 .eql v3.1.Kind 1)
 (cond (Q1l .eql v3.1.Topic [97,47,98])
 (some (Q1l .eql v3.1.Payload [104,105]))
 (some false))
 (some false))
 (some false))
 (some false)
theorem Q9w {N} {r} (h:Q1b N=some r):pU 4 [] (.bool r):=by
 refine Q0 k4 ?_;unfold Q1b at h;rw [cX,cY] at h;refine cP h Qc5 p0 fun v1 h=>?_;refine cP h Qba p2 fun v3 h=>?_;refine iR h fun h=>?_;refine iR h fun h=>?_;refine iR h fun h=>?_;exact iB h
def Yi (N:Nat) (l:List Q6):Nat->Int->Option Bool
 | 0,_=>none
 | n+1,i17=>
  cond (Q4 .lss i17 ((Q7 Q6.cells l).length:Int))
  ((idx l i17).bind fun y19=>
  cond (Q4 .gtr (y19.Text.length:Int) 300)
  (some false)
  ((idx l i17).bind fun y22=>
  cond (Q4 .gtr (y22.Value.length:Int) 300)
  (some false)
  (Yi N l n (wrap .i64 (i17+1)))))
  (some (Q4 .leq ((Q7 Q6.cells l).length:Int) 30))
def Zm (N:Nat) (l:List Q6):Option Bool:=
 Yi N l N 0
theorem Wk {N} {l} {r} (h:Zm N l=some r):pU 20 [.slice 4 (Q7 Q6.cells l)] (.bool r):=by
 refine Q0 k20 ?_;unfold Zm at h;refine lpH (τ:=Int) (fun i17=>(.p (.slice 4 (Q7 Q6.cells l)) :: .any :: .any::iI i17::a16 (a8 (.any :: [])):List AV)) (fun n0 i17=>Yi N l n0 i17) (0) h fun n0 i17 h=>?_
 first | rw [Yi] at h | simp only [Yi] at h
 rw [cX] at h;refine iR h fun h=>?_;refine xR h fun y19 h=>?_;refine iL h fun h=>?_;refine xR h fun y22 h=>?_;refine iL h fun h=>?_;show Exists _;exact ⟨(n0,(wrap .i64 (i17+1))),h,Le _,(fun i=>i),Yf⟩
end
end
end Go.Av
