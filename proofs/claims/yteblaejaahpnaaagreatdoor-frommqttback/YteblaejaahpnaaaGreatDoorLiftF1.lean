/- Part of the proof of FrommqttBack: for every input the law returns true; no condition. -/
import Derived.Test.YteblaejaahpnaaaGreatDoorLiftF0
set_option linter.all false
open Go.IntKind (wrap)
namespace Go.Av
noncomputable section
open Go.Proofs
set_option maxRecDepth 100000
set_option maxHeartbeats 4000000
attribute [local irreducible] Gu U7 Qdf Qij Qut Qug Qi3
section
def Ug (N:Nat) (s_0:List UInt8):Option (Int×Int):=
 cond (Q0p .neq s_0 [])
 ((idx s_0 0).bind fun b2=>
 cond (Q3 .lss (b2.toNat:Int) 128)
 ((idx s_0 0).bind fun b5=>
 some ((wrap .i32 (b5.toNat:Int)),1))
 ((Xa N s_0).bind fun v7=>
 some (v7.1,v7.2)))
 ((Xa N s_0).bind fun v9=>
 some (v9.1,v9.2))
theorem Q3h {N} {s_0} {r} (h:Ug N s_0=some r):pU 527 [.str s_0] (.tuple [.int .i32 r.1,.int .i64 r.2]):=by
 refine Q0 Ze3 ?_;unfold Ug at h;rw [cX,cY] at h;apply iU h<;>intro h
 ·refine xB h fun b2 h=>?_;apply iU h<;>intro h
  ·refine xB h fun b5 h=>?_;obtain rfl:=Qm h;exact u2
  refine cP h Jb p1 fun v7 h=>?_;obtain rfl:=Qm h;exact u2
 refine cP h Jb p1 fun v9 h=>?_;obtain rfl:=Qm h;exact u2
def G7 (N:Nat) (n5:Int):Nat→(List UInt8)→Int→(List (List UInt8))→Option (List (List UInt8))
 | 0,_,_,_=>none
 | n+1,s28,i29,l30=>
  cond (Q3 .lss i29 (wrap .i64 (n5 - 1)))
  ((Ug N s28).bind fun v32=>
  cond (decide (0≤v32.2)) (cond (Nat.ble 0 v32.2.toNat&&Nat.ble v32.2.toNat s28.length) ((idx (l30:List (List UInt8)) i29).bind fun y36=>
  cond (Nat.ble v32.2.toNat s28.length&&Nat.ble s28.length s28.length) (G7 N n5 n ((s28.take s28.length).drop v32.2.toNat) (wrap .i64 (i29+1)) ((l30:List (List UInt8)).set (Int.toNat i29) ((s28.take v32.2.toNat).drop 0))) none) none) none)
  (cond (Q3 .gtr n5 0)
  ((idx (l30:List (List UInt8)) (wrap .i64 (n5 - 1))).bind fun y40=>
  some ((l30:List (List UInt8)).set (Int.toNat (wrap .i64 (n5 - 1))) s28))
  (some l30))
def G8 (N:Nat) (s_0:List UInt8) (n5:Int):Option (List (List UInt8)):=
 cond (decide (0≤n5)&&decide (n5≤n5)&&decide (n5 * 16≤1099511627776)) (G7 N n5 N s_0 0 (List.replicate (n5:Int).toNat ([]:(List UInt8)))) none
def Q5v (N:Nat) (s_0:List UInt8) (n_1:Int):Option (List (List UInt8)):=
 (Ur N s_0).bind fun v1=>
 cond (Q3 .lss n_1 0)
 (G8 N s_0 v1)
 (cond (Q3 .gtr n_1 v1)
 (G8 N s_0 v1)
 (G8 N s_0 n_1))
theorem Qcn {N} {s_0} {n_1} {r} (h:Q5v N s_0 n_1=some r):pU 515 [.str s_0,.int .i64 n_1] (.slice 1 (Q6 cS r)):=by
 refine Q0 Zov ?_;unfold Q5v at h;rw [cX] at h;refine cP h Q40 p1 fun v1 h=>?_;refine jrH (r:=r) (σ:=Int) (fun n5=>(iS s_0::iI n5::a16 (a16 (a16 ([]))):List AV)) (fun n5=>G8 N s_0 n5) ?_ ?_
 ·apply iU h<;>intro h
  ·show Exists _;exact ⟨(v1),h,(fun i=>i),Yn⟩
  apply iU h<;>intro h
  ·show Exists _;exact ⟨(v1),h,(fun i=>i),Yn⟩
  show Exists _;exact ⟨(n_1),h,(fun i=>i),Yn⟩
 rintro n5 h
 unfold G8 at h;refine kU h fun h=>?_;refine Z3j (c:=cS) ([]:(List UInt8)) rfl ?_;refine lpC (τ:=(List UInt8)×Int×(List (List UInt8))) (fun ⟨s28,i29,l30⟩=>(iS s28::iI n5::a4 (.slice 1 1 0 l30.length::iI i29::a16 (a16 (a8 (a2 ([]))))):List AV)) (fun ⟨_,_,l30⟩=>(.dead :: .cells (Q18 cS l30) :: []:List AObj)) (fun n1 ⟨s28,i29,l30⟩=>G7 N n5 n1 s28 i29 l30) (s_0,0,(List.replicate (n5:Int).toNat ([]:(List UInt8)))) h (rho [0,0]) Yn fun n1 ⟨s28,i29,l30⟩ h=>?_
 first | rw [G7] at h | simp only [G7] at h
 rw [cX] at h;apply iU h<;>intro h
 ·refine cP h Q3h p1 fun v32 h=>?_;obtain ⟨hk34,h⟩:=Q99 h;refine Q37 hk34 ?_;refine kU h fun h=>?_;obtain ⟨y36,hy37,h⟩:=Q36 h;refine Q37 (Q8i hy37 sd) ?_;refine Q37 (Q5b (c:=cS) (e:=1) (fun _=>rfl) hy37 (off:=0) (by omega) rfl (by decide)) ?_
  refine Q4w (c:=cS) (e:=1) (fun _=>rfl) hy37 ((s28.take v32.2.toNat).drop 0) (off:=0) (by first | omega | (simp only [Q6v,orI,Qnh,Q2e,Qb3,Qcl];omega)) rfl (by simp) ?_
  refine Q37 hk34 ?_;refine kU h fun h=>?_;show Exists _;exact ⟨(n1,((s28.take s28.length).drop v32.2.toNat),(wrap .i64 (i29+1)),((l30:List (List UInt8)).set (Int.toNat i29) ((s28.take v32.2.toNat).drop 0))),h,Lf _,(fun i=>i),Yn⟩
 apply iU h<;>intro h
 ·obtain ⟨y40,hy41,h⟩:=Q36 h;refine Q37 (Q8i hy41 sd) ?_;refine Q37 (Q5b (c:=cS) (e:=1) (fun _=>rfl) hy41 (off:=0) (by omega) rfl (by decide)) ?_
  refine Q4w (c:=cS) (e:=1) (fun _=>rfl) hy41 s28 (off:=0) (by first | omega | (simp only [Q6v,orI,Qnh,Q2e,Qb3,Qcl];omega)) rfl (by simp) ?_
  obtain rfl:=Qm h;exact (frz_own (c:=cS) (l:=(((l30:List (List UInt8)).set (Int.toNat (wrap .i64 (n5 - 1))) s28):List (List UInt8))) (fun _=>rfl) rfl trivial sd)
 obtain rfl:=Qm h;exact (frz_own (c:=cS) (l:=(l30:List (List UInt8))) (fun _=>rfl) rfl trivial sd)
def Vv (N:Nat) (s_0:List UInt8):Nat→(List UInt8)→Int→(List (List UInt8))→Option (List (List UInt8))
 | 0,_,_,_=>none
 | n+1,s36,i37,l38=>
  cond (Q3 .lss i37 (wrap .i64 ((ifB (decide ((wrap .i64 ((s_0.length:Int)+1))<(wrap .i64 ((Qat s_0 (UInt8.ofNat (Int.toNat 47)) 0:Int)+1)))) (wrap .i64 ((s_0.length:Int)+1)) (wrap .i64 ((Qat s_0 (UInt8.ofNat (Int.toNat 47)) 0:Int)+1))) - 1)))
  (cond (Q0p .eql [47] s36)
  ((idx (l38:List (List UInt8)) i37).bind fun y41=>
  cond (Nat.ble 1 s36.length&&Nat.ble s36.length s36.length) (Vv N s_0 n ((s36.take s36.length).drop 1) (wrap .i64 (i37+1)) ((l38:List (List UInt8)).set (Int.toNat i37) ((s36.take 0).drop 0))) none)
  ((Zn N s36 47).bind fun v44=>
  cond (Q3 .lss v44 0)
  ((idx (l38:List (List UInt8)) i37).bind fun y47=>
  cond (decide (0≤(wrap .i64 (i37+1)))) (cond (Nat.ble 0 ((wrap .i64 (i37+1)).toNat)&&Nat.ble ((wrap .i64 (i37+1)).toNat) l38.length) (some ((((l38:List (List UInt8)).set (Int.toNat i37) s36):List (List UInt8)).take ((wrap .i64 (i37+1)).toNat))) none) none)
  (cond (decide (0≤(wrap .i64 (v44+0)))) (cond (Nat.ble 0 ((wrap .i64 (v44+0)).toNat)&&Nat.ble ((wrap .i64 (v44+0)).toNat) s36.length) ((idx (l38:List (List UInt8)) i37).bind fun y53=>
  cond (decide (0≤(wrap .i64 (v44+1)))) (cond (Nat.ble (wrap .i64 (v44+1)).toNat s36.length&&Nat.ble s36.length s36.length) (Vv N s_0 n ((s36.take s36.length).drop ((wrap .i64 (v44+1)).toNat)) (wrap .i64 (i37+1)) ((l38:List (List UInt8)).set (Int.toNat i37) ((s36.take ((wrap .i64 (v44+0)).toNat)).drop 0))) none) none) none) none)))
  ((idx (l38:List (List UInt8)) i37).bind fun y57=>
  cond (decide (0≤(wrap .i64 (i37+1)))) (cond (Nat.ble 0 ((wrap .i64 (i37+1)).toNat)&&Nat.ble ((wrap .i64 (i37+1)).toNat) l38.length) (some ((((l38:List (List UInt8)).set (Int.toNat i37) s36):List (List UInt8)).take ((wrap .i64 (i37+1)).toNat))) none) none)
def Q3j (N:Nat) (s_0:List UInt8):Option (List (List UInt8)):=
 cond (Q0p .eql [47] [])
 ((Q5v N s_0 (-1)).bind fun v2=>
 some v2)
 (cond (decide (0≤(ifB (decide ((wrap .i64 ((s_0.length:Int)+1))<(wrap .i64 ((Qat s_0 (UInt8.ofNat (Int.toNat 47)) 0:Int)+1)))) (wrap .i64 ((s_0.length:Int)+1)) (wrap .i64 ((Qat s_0 (UInt8.ofNat (Int.toNat 47)) 0:Int)+1))))&&decide ((ifB (decide ((wrap .i64 ((s_0.length:Int)+1))<(wrap .i64 ((Qat s_0 (UInt8.ofNat (Int.toNat 47)) 0:Int)+1)))) (wrap .i64 ((s_0.length:Int)+1)) (wrap .i64 ((Qat s_0 (UInt8.ofNat (Int.toNat 47)) 0:Int)+1)))≤(ifB (decide ((wrap .i64 ((s_0.length:Int)+1))<(wrap .i64 ((Qat s_0 (UInt8.ofNat (Int.toNat 47)) 0:Int)+1)))) (wrap .i64 ((s_0.length:Int)+1)) (wrap .i64 ((Qat s_0 (UInt8.ofNat (Int.toNat 47)) 0:Int)+1))))&&decide ((ifB (decide ((wrap .i64 ((s_0.length:Int)+1))<(wrap .i64 ((Qat s_0 (UInt8.ofNat (Int.toNat 47)) 0:Int)+1)))) (wrap .i64 ((s_0.length:Int)+1)) (wrap .i64 ((Qat s_0 (UInt8.ofNat (Int.toNat 47)) 0:Int)+1))) * 16≤1099511627776)) (Vv N s_0 N s_0 0 (List.replicate ((ifB (decide ((wrap .i64 ((s_0.length:Int)+1))<(wrap .i64 ((Qat s_0 (UInt8.ofNat (Int.toNat 47)) 0:Int)+1)))) (wrap .i64 ((s_0.length:Int)+1)) (wrap .i64 ((Qat s_0 (UInt8.ofNat (Int.toNat 47)) 0:Int)+1))):Int).toNat ([]:(List UInt8)))) none)
theorem Qfr {N} {s_0} {r} (h:Q3j N s_0=some r):pU 433 [.str s_0] (.slice 1 (Q6 cS r)):=by
 refine Q0 Zko ?_;unfold Q3j at h;rw [cY] at h;refine Zy Zn0 ?_;refine Zy Zeh ?_;refine dF ?_;apply iU h<;>intro h
 ·refine cP h Qcn p2 fun v2 h=>?_;cases h;exact (.p _)
 refine dT ?_;refine Zy Zaa ?_;refine dF ?_;refine dT ?_;refine kU h fun h=>?_;refine Z3j (c:=cS) ([]:(List UInt8)) rfl ?_;refine lpC (τ:=(List UInt8)×Int×(List (List UInt8))) (fun ⟨s36,i37,l38⟩=>(iS s36::iS [47]::iI 0 :: .p (.int .i64 (wrap .i64 ((ifB (decide ((wrap .i64 ((s_0.length:Int)+1))<(wrap .i64 ((Qat s_0 (UInt8.ofNat (Int.toNat 47)) 0:Int)+1)))) (wrap .i64 ((s_0.length:Int)+1)) (wrap .i64 ((Qat s_0 (UInt8.ofNat (Int.toNat 47)) 0:Int)+1))) - 1)))::a4 (.any :: .slice 1 1 0 l38.length::iI i37::a16 (a16 (a16 (a4 (a2 (.any :: [])))))):List AV)) (fun ⟨_,_,l38⟩=>(.dead :: .cells (Q18 cS l38) :: []:List AObj)) (fun n0 ⟨s36,i37,l38⟩=>Vv N s_0 n0 s36 i37 l38) (s_0,0,(List.replicate ((ifB (decide ((wrap .i64 ((s_0.length:Int)+1))<(wrap .i64 ((Qat s_0 (UInt8.ofNat (Int.toNat 47)) 0:Int)+1)))) (wrap .i64 ((s_0.length:Int)+1)) (wrap .i64 ((Qat s_0 (UInt8.ofNat (Int.toNat 47)) 0:Int)+1))):Int).toNat ([]:(List UInt8)))) h (rho [0,0]) Yn fun n0 ⟨s36,i37,l38⟩ h=>?_
 first | rw [Vv] at h | simp only [Vv] at h
 rw [cX,cY] at h;apply iU h<;>intro h
 ·refine Zy Z9p ?_;refine Zy Z8n ?_;refine dF ?_;apply iU h<;>intro h
  ·refine dF ?_;obtain ⟨y41,hy42,h⟩:=Q36 h;refine Q37 (Q8i hy42 sd) ?_;refine Q37 (Q5b (c:=cS) (e:=1) (fun _=>rfl) hy42 (off:=0) (by omega) rfl (by decide)) ?_
   refine Q4w (c:=cS) (e:=1) (fun _=>rfl) hy42 ((s36.take 0).drop 0) (off:=0) (by first | omega | (simp only [Q6v,orI,Qnh,Q2e,Qb3,Qcl];omega)) rfl (by simp) ?_
   refine kU h fun h=>?_;show Exists _;exact ⟨(n0,((s36.take s36.length).drop 1),(wrap .i64 (i37+1)),((l38:List (List UInt8)).set (Int.toNat i37) ((s36.take 0).drop 0))),h,Lf _,(fun i=>i),Yn⟩
  refine dT ?_;refine cP h Vj p2 fun v44 h=>?_;apply iU h<;>intro h
  ·obtain ⟨y47,hy48,h⟩:=Q36 h;refine Q37 (Q8i hy48 sd) ?_;refine Q37 (Q5b (c:=cS) (e:=1) (fun _=>rfl) hy48 (off:=0) (by omega) rfl (by decide)) ?_
   refine Q4w (c:=cS) (e:=1) (fun _=>rfl) hy48 s36 (off:=0) (by first | omega | (simp only [Q6v,orI,Qnh,Q2e,Qb3,Qcl];omega)) rfl (by simp) ?_
   refine kU h fun h=>?_;obtain ⟨hk50,h⟩:=Q99 h;refine Q37 hk50 ?_;obtain rfl:=Qm h;exact (Qs4 (c:=cS) (l:=(((l38:List (List UInt8)).set (Int.toNat i37) s36):List (List UInt8))) (fun _=>rfl) rfl trivial (by have e:l38.length=(((l38:List (List UInt8)).set (Int.toNat i37) s36):List (List UInt8)).length:=sd;simp only [La,Ln] at hk50;omega))
  refine kU h fun h=>?_;refine kU h fun h=>?_;obtain ⟨y53,hy54,h⟩:=Q36 h;refine Q37 (Q8i hy54 sd) ?_;refine Q37 (Q5b (c:=cS) (e:=1) (fun _=>rfl) hy54 (off:=0) (by omega) rfl (by decide)) ?_
  refine Q4w (c:=cS) (e:=1) (fun _=>rfl) hy54 ((s36.take ((wrap .i64 (v44+0)).toNat)).drop 0) (off:=0) (by first | omega | (simp only [Q6v,orI,Qnh,Q2e,Qb3,Qcl];omega)) rfl (by simp) ?_
  refine kU h fun h=>?_;refine kU h fun h=>?_;show Exists _;exact ⟨(n0,((s36.take s36.length).drop ((wrap .i64 (v44+1)).toNat)),(wrap .i64 (i37+1)),((l38:List (List UInt8)).set (Int.toNat i37) ((s36.take ((wrap .i64 (v44+0)).toNat)).drop 0))),h,Lf _,(fun i=>i),Yn⟩
 obtain ⟨y57,hy58,h⟩:=Q36 h;refine Q37 (Q8i hy58 sd) ?_;refine Q37 (Q5b (c:=cS) (e:=1) (fun _=>rfl) hy58 (off:=0) (by omega) rfl (by decide)) ?_
 refine Q4w (c:=cS) (e:=1) (fun _=>rfl) hy58 s36 (off:=0) (by first | omega | (simp only [Q6v,orI,Qnh,Q2e,Qb3,Qcl];omega)) rfl (by simp) ?_
 refine kU h fun h=>?_;obtain ⟨hk60,h⟩:=Q99 h;refine Q37 hk60 ?_;obtain rfl:=Qm h;exact (Qs4 (c:=cS) (l:=(((l38:List (List UInt8)).set (Int.toNat i37) s36):List (List UInt8))) (fun _=>rfl) rfl trivial (by have e:l38.length=(((l38:List (List UInt8)).set (Int.toNat i37) s36):List (List UInt8)).length:=sd;simp only [La,Ln] at hk60;omega))
def Gr (N:Nat) (s_0:List UInt8):Option Bool:=
 (Q65 N s_0).bind fun v1=>
 cond v1
 ((Q3j N s_0).bind fun v4=>
 (Q3p N v4).bind fun v6=>
 some v6)
 (some false)
theorem Q5w {N} {s_0} {r} (h:Gr N s_0=some r):pU 374 [.str s_0] (.bool r):=by
 refine Q0 Zor ?_;unfold Gr at h;refine cP h Qbr p1 fun v1 h=>?_;refine iR h fun h=>?_;refine cP h Qfr p1 fun v4 h=>?_;refine cP h Qg6 p1 fun v6 h=>?_;cases h;exact (.p _)
def J4 (_N:Nat) (n_0:Int):Option Bool:=
 cond (Q3 .geq n_0 0)
 (some (Q3 .lss n_0 3))
 (some false)
theorem Q3c {N} {n_0} {r} (h:J4 N n_0=some r):pU 434 [.int .i64 n_0] (.bool r):=by
 refine Q0 Zib ?_;unfold J4 at h;rw [cX] at h;exact iB h
def Wi (_N:Nat) (s_0:List UInt8) (prefix_1:List UInt8):Option Bool:=
 cond (Q3 .geq (s_0.length:Int) (prefix_1.length:Int))
 (cond (Nat.ble 0 prefix_1.length&&Nat.ble prefix_1.length s_0.length) (some (Q0p .eql ((s_0.take prefix_1.length).drop 0) prefix_1)) none)
 (some false)
theorem Q3v {N} {s_0} {prefix_1} {r} (h:Wi N s_0 prefix_1=some r):pU 518 [.str s_0,.str prefix_1] (.bool r):=by
 refine Q0 Zgx ?_;unfold Wi at h;rw [cX,cY] at h;refine iR h fun h=>?_;refine kU h fun h=>?_;cases h;exact (.p _)
def Wj (N:Nat) (s_0:List UInt8) (prefix_1:List UInt8):Option ((List UInt8)×Bool):=
 (Wi N s_0 prefix_1).bind fun v1=>
 cond (!v1)
 (some (s_0,false))
 (cond (Nat.ble prefix_1.length s_0.length&&Nat.ble s_0.length s_0.length) (some (((s_0.take s_0.length).drop prefix_1.length),true)) none)
theorem Q3z {N} {s_0} {prefix_1} {r} (h:Wj N s_0 prefix_1=some r):pU 496 [.str s_0,.str prefix_1] (.tuple [.str r.1,.bool r.2]):=by
 refine Q0 Zad ?_;unfold Wj at h;refine cP h Q3v p2 fun v1 h=>?_;refine iL2 h fun h=>?_;refine kU h fun h=>?_;obtain rfl:=Qm h;exact u2
def Q06 (N:Nat) (s_0:List UInt8) (prefix_1:List UInt8):Option ((List UInt8)×Bool):=
 (Wj N s_0 prefix_1).bind fun v1=>
 some (v1.1,v1.2)
theorem Qax {N} {s_0} {prefix_1} {r} (h:Q06 N s_0 prefix_1=some r):pU 464 [.str s_0,.str prefix_1] (.tuple [.str r.1,.bool r.2]):=by
 refine Q0 Zbe ?_;unfold Q06 at h;refine cP h Q3z p2 fun v1 h=>?_;obtain rfl:=Qm h;exact u2
def Q3m (N:Nat) (s_0:List UInt8):Option ((List UInt8)×(List UInt8)×Bool):=
 (Q06 N s_0 [36,115,104,97,114,101,47]).bind fun v1=>
 cond (Q0p .eql [47] v1.1)
 (cond (Nat.ble 1 v1.1.length&&Nat.ble v1.1.length v1.1.length) (cond (!v1.2)
 (some ([],[],false))
 ((X1 N s_0).bind fun v6=>
 cond (!v6)
 (some ([],[],false))
 ((Jl N ((v1.1.take 0).drop 0)).bind fun v9=>
 cond (!v9)
 (some ([],[],false))
 ((Gr N ((v1.1.take v1.1.length).drop 1)).bind fun v12=>
 cond (!v12)
 (some ([],[],false))
 (some (((v1.1.take 0).drop 0),((v1.1.take v1.1.length).drop 1),true)))))) none)
 ((Zn N v1.1 47).bind fun v15=>
 cond (Q3 .geq v15 0)
 (cond (decide (0≤v15)) (cond (Nat.ble 0 v15.toNat&&Nat.ble v15.toNat v1.1.length) (cond (decide (0≤(wrap .i64 (v15+1)))) (cond (Nat.ble (wrap .i64 (v15+1)).toNat v1.1.length&&Nat.ble v1.1.length v1.1.length) (cond (!v1.2)
 (some ([],[],false))
 ((X1 N s_0).bind fun v23=>
 cond (!v23)
 (some ([],[],false))
 ((Jl N ((v1.1.take v15.toNat).drop 0)).bind fun v26=>
 cond (!v26)
 (some ([],[],false))
 ((Gr N ((v1.1.take v1.1.length).drop ((wrap .i64 (v15+1)).toNat))).bind fun v29=>
 cond (!v29)
 (some ([],[],false))
 (some (((v1.1.take v15.toNat).drop 0),((v1.1.take v1.1.length).drop ((wrap .i64 (v15+1)).toNat)),true)))))) none) none) none) none)
 (cond (!v1.2)
 (some ([],[],false))
 (some ([],[],false))))
theorem Qgb {N} {s_0} {r} (h:Q3m N s_0=some r):pU 435 [.str s_0] (.tuple [.str r.1,.str r.2.1,.bool r.2.2]):=by
 refine Q0 Zmo ?_;unfold Q3m at h;rw [cX,cY] at h;refine cP h Qax p2 fun v1 h=>?_;refine Zy Zam ?_;refine Zy Zlw ?_;refine Zy Z8n ?_;refine dF ?_;apply iU h<;>intro h
 ·refine dT ?_;refine Qk ?_;refine kU h fun h=>?_;apply iU h<;>intro h
  ·obtain rfl:=Qm h;exact u3
  refine cP h Xm p1 fun v6 h=>?_;apply iU h<;>intro h
  ·obtain rfl:=Qm h;exact u3
  refine cP h Q05 p1 fun v9 h=>?_;apply iU h<;>intro h
  ·obtain rfl:=Qm h;exact u3
  refine cP h Q5w p1 fun v12 h=>?_;apply iU h<;>intro h
  ·obtain rfl:=Qm h;exact u3
  obtain rfl:=Qm h;exact u3
 refine dT ?_;refine cP h Vj p2 fun v15 h=>?_;apply iU h<;>intro h
 ·refine Qk ?_;refine kU h fun h=>?_;refine kU h fun h=>?_;refine kU h fun h=>?_;refine kU h fun h=>?_;apply iU h<;>intro h
  ·obtain rfl:=Qm h;exact u3
  refine cP h Xm p1 fun v23 h=>?_;apply iU h<;>intro h
  ·obtain rfl:=Qm h;exact u3
  refine cP h Q05 p1 fun v26 h=>?_;apply iU h<;>intro h
  ·obtain rfl:=Qm h;exact u3
  refine cP h Q5w p1 fun v29 h=>?_;apply iU h<;>intro h
  ·obtain rfl:=Qm h;exact u3
  obtain rfl:=Qm h;exact u3
 apply iU h<;>intro h
 ·obtain rfl:=Qm h;exact u3
 obtain rfl:=Qm h;exact u3
def Q02 (N:Nat) (version:Int) (kind:Int) (f:Qg):Option Bool:=
 cond (Q3 .eql kind 10)
 (cond (((f.Topic:List UInt8) == f.Topic)&&(((f.QoS:Int) == f.QoS)&&(((f.NoLocal:Bool) == false)&&(((f.AsPublished:Bool) == false)&&(((f.Handling:Int) == 0)&&true)))))
 (some (Q3 .eql f.QoS 0))
 (some false))
 (cond (Q3 .eql version 4)
 (cond (((f.Topic:List UInt8) == f.Topic)&&(((f.QoS:Int) == f.QoS)&&(((f.NoLocal:Bool) == false)&&(((f.AsPublished:Bool) == false)&&(((f.Handling:Int) == 0)&&true)))))
 ((J4 N f.QoS).bind fun v5=>
 some v5)
 (some false))
 ((Q3m N f.Topic).bind fun v7=>
 (J4 N f.QoS).bind fun v9=>
 cond v9
 ((J4 N f.Handling).bind fun v12=>
 cond v12
 (cond v7.2.2
 (some (!f.NoLocal))
 (some true))
 (some false))
 (some false)))
theorem Qau {N} {version} {kind} {f} {r} (h:Q02 N version kind f=some r):pU 375 [.int .i64 version,.int .i64 kind,.agg (Qg.cells f)] (.bool r):=by
 refine Q0 Z9s ?_;unfold Q02 at h;rw [cX] at h;apply iU h<;>intro h
 ·exact iB h
 apply iU h<;>intro h
 ·refine iR h fun h=>?_;refine cP h Q3c p1 fun v5 h=>?_;cases h;exact (.p _)
 refine cP h Qgb p1 fun v7 h=>?_;refine cP h Q3c p1 fun v9 h=>?_;refine iR h fun h=>?_;refine cP h Q3c p1 fun v12 h=>?_;refine iR h fun h=>?_;exact iB h
def Q3l (_N:Nat) (code:Int):Option Bool:=
 cond (Q3 .eql code 0)
 (some true)
 (cond (Q3 .eql code 1)
 (some true)
 (cond (Q3 .eql code 2)
 (some true)
 (cond (Q3 .eql code 128)
 (some true)
 (some false))))
theorem Qfs {N} {code} {r} (h:Q3l N code=some r):pU 436 [.int .i64 code] (.bool r):=by
 refine Q0 Zpp ?_;unfold Q3l at h;rw [cX] at h;refine ifO h (fun hc1 h=>?_) (fun hc1 h=>?_)
 ·refine ifT hc1 ?_;cases h;exact (.p _)
 refine ifO h (fun hc2 h=>?_) (fun hc2 h=>?_)
 ·refine ifT hc2 ?_;cases h;exact (.p _)
 refine ifO h (fun hc3 h=>?_) (fun hc3 h=>?_)
 ·refine ifT hc3 ?_;cases h;exact (.p _)
 exact iB h
def Q07 (N:Nat) (version:Int) (kind:Int) (code:Int):Option Bool:=
 cond (Q3 .eql version 4)
 ((Q3l N code).bind fun v2=>
 some v2)
 ((Q0q N kind code).bind fun v4=>
 some v4)
theorem Qb2 {N} {version} {kind} {code} {r} (h:Q07 N version kind code=some r):pU 376 [.int .i64 version,.int .i64 kind,.int .i64 code] (.bool r):=by
 refine Q0 Zk4 ?_;unfold Q07 at h;rw [cX] at h;apply iU h<;>intro h
 ·refine cP h Qfs p1 fun v2 h=>?_;cases h;exact (.p _)
 refine cP h Q31 p2 fun v4 h=>?_;cases h;exact (.p _)
def Q1g (_N:Nat) (version:Int) (kind:Int):Option Bool:=
 cond (Q3 .eql version 4)
 (cond (Q3 .geq kind 8)
 (some (Q3 .leq kind 11))
 (some false))
 (cond (Q3 .eql version 5)
 (cond (Q3 .geq kind 8)
 (some (Q3 .leq kind 11))
 (some false))
 (some false))
theorem Qck {N} {version} {kind} {r} (h:Q1g N version kind=some r):pU 311 [.int .i64 version,.int .i64 kind] (.bool r):=by
 refine Q0 Zgz ?_;unfold Q1g at h;rw [cX] at h;apply iU h<;>intro h
 ·exact iB h
 refine iR h fun h=>?_;exact iB h
def V8 (N:Nat) (version:Int) (p:Q1):Nat→Int→Option Int
 | 0,_=>none
 | n+1,s52=>
  cond (Q3 .lss s52 ((Q6 (cI .i64) p.Codes).length:Int))
  ((idx p.Codes s52).bind fun y54=>
  (Q07 N version p.Kind y54).bind fun v56=>
  cond (!v56)
  (some 2)
  (V8 N version p n (wrap .i64 (s52+1))))
  (some 0)
def W2 (N:Nat) (version:Int) (p:Q1):Nat→Int→Option Int
 | 0,_=>none
 | n+1,s29=>
  cond (Q3 .lss s29 ((Q6 Qg.cells p.Filters).length:Int))
  ((idx p.Filters s29).bind fun y31=>
  (Gr N y31.Topic).bind fun v33=>
  cond (!v33)
  (some 10)
  ((Q02 N version p.Kind y31).bind fun v36=>
  cond (!v36)
  (some 2)
  (W2 N version p n (wrap .i64 (s29+1)))))
  (V8 N version p N 0)
def Q1f (N:Nat) (version:Int) (p:Q1):Option Int:=
 (Q1g N version p.Kind).bind fun v1=>
 cond (!v1)
 (some 2)
 ((Q0y N version p).bind fun v4=>
 cond (!v4)
 (some 2)
 ((X8 N p.Kind p.Props).bind fun v7=>
 cond (Q3 .neq v7 0)
 (some v7)
 (W2 N version p N 0)))
theorem Qcj {N} {version} {p} {r} (h:Q1f N version p=some r):pU 308 [.int .i64 version,.agg (Q1.cells p)] (.int .i64 r):=by
 refine Q0 Zha ?_;unfold Q1f at h;rw [cX] at h;refine cP h Qck p2 fun v1 h=>?_;refine iL h fun h=>?_;refine cP h Qbt (.cons (.p _) (.cons (Ap (Qo (f2_ (f1_ (.cons (.p _) p5))))) .nil)) fun v4 h=>?_;refine iL h fun h=>?_;refine cP h Xy p2 fun v7 h=>?_;refine iL h fun h=>?_;refine lpH (τ:=Int) (fun s29=>(iI version :: .any :: .any :: .ptr 0 0::a16 (a8 (a2 (.p (.slice 5 (Q6 Qg.cells p.Filters))::iI ((Q6 Qg.cells p.Filters).length:Int)::iI s29::a16 (a8 (a4 ([])))))):List AV)) (fun n0 s29=>W2 N version p n0 s29) (0) h fun n0 s29 h=>?_
 first | rw [W2] at h | simp only [W2] at h
 rw [cX] at h;apply iU h<;>intro h
 ·refine xR h fun y31 h=>?_;refine cP h Q5w p1 fun v33 h=>?_;refine iL h fun h=>?_;refine cP h Qau (f2_ (.cons (Ap p5) .nil)) fun v36 h=>?_;refine iL h fun h=>?_;show Exists _;exact ⟨(n0,(wrap .i64 (s29+1))),h,Lf _,(fun i=>i),Yn⟩
 refine lpH (τ:=Int) (fun s52=>(iI version :: .any :: .any :: .ptr 0 0::a16 (a16 (a8 (a4 (.p (.slice 1 (Q6 (cI .i64) p.Codes)) :: .p (.int .i64 ((Q6 (cI .i64) p.Codes).length:Int))::iI s52::a8 (a2 ([])))))):List AV)) (fun n1 s52=>V8 N version p n1 s52) (0) h fun n1 s52 h=>?_
 first | rw [V8] at h | simp only [V8] at h
 rw [cX] at h;refine iR h fun h=>?_;refine xR h fun y54 h=>?_;refine cP h Qb2 p3 fun v56 h=>?_;refine iL h fun h=>?_;show Exists _;exact ⟨(n1,(wrap .i64 (s52+1))),h,Lf _,(fun i=>i),Yn⟩
def Gv (N:Nat) (s_0:List UInt8):Option ((List UInt8)×Int):=
 (X1 N s_0).bind fun v1=>
 cond (!v1)
 (some ([],6))
 ((G5 N s_0).bind fun v4=>
 some (v4,0))
theorem Q8o {N} {s_0} {r} (h:Gv N s_0=some r):pU 309 [.str s_0] (.tuple [.str r.1,.int .i64 r.2]):=by
 refine Q0 Zpa ?_;unfold Gv at h;refine cP h Xm p1 fun v1 h=>?_;refine iL2 h fun h=>?_;refine cP h Q74 p1 fun v4 h=>?_;obtain rfl:=Qm h;exact u2
def J7 (_N:Nat) (f:Qg):Option Int:=
 cond f.NoLocal
 (cond f.AsPublished
 (some (orI .i64 (orI .i64 (orI .i64 (Q6v .i64 f.QoS 3) (Qb3 .i64 (Q6v .i64 f.Handling 3) 4)) 4) 8))
 (some (orI .i64 (orI .i64 (Q6v .i64 f.QoS 3) (Qb3 .i64 (Q6v .i64 f.Handling 3) 4)) 4)))
 (cond f.AsPublished
 (some (orI .i64 (orI .i64 (Q6v .i64 f.QoS 3) (Qb3 .i64 (Q6v .i64 f.Handling 3) 4)) 8))
 (some (orI .i64 (Q6v .i64 f.QoS 3) (Qb3 .i64 (Q6v .i64 f.Handling 3) 4))))
theorem Q5j {N} {f} {r} (h:J7 N f=some r):pU 310 [.agg (Qg.cells f)] (.int .i64 r):=by
 refine Q0 Zpg ?_;unfold J7 at h;apply iU h<;>intro h
 ·exact iB h
 exact iB h
def Wm (N:Nat) (p:Q1):Nat→Int→(List Int)→Option ((List UInt8)×Int)
 | 0,_,_=>none
 | n+1,s76,l77=>
  cond (Q3 .lss s76 ((Q6 (cI .i64) p.Codes).length:Int))
  ((idx p.Codes s76).bind fun y79=>
  cond (Nat.ble ((l77.length+1+4096) * 1) 17592186044416) (Wm N p n (wrap .i64 (s76+1)) (l77 ++ [(wrap .u8 y79)])) none)
  (some ((l77.map fun n=>UInt8.ofNat n.toNat),0))
def Zr (N:Nat) (p:Q1):Nat→Int→(List Int)→Option ((List UInt8)×Int)
 | 0,_,_=>none
 | n+1,s49,l50=>
  cond (Q3 .lss s49 ((Q6 Qg.cells p.Filters).length:Int))
  ((idx p.Filters s49).bind fun y52=>
  (Gv N y52.Topic).bind fun v54=>
  cond (Nat.beq v54.1.length 0)
  (cond (Q3 .eql p.Kind 8)
  ((J7 N y52).bind fun v58=>
  cond (Nat.ble ((l50.length+1+4096) * 1) 17592186044416) (Zr N p n (wrap .i64 (s49+1)) (l50 ++ [(wrap .u8 v58)])) none)
  (Zr N p n (wrap .i64 (s49+1)) l50))
  (cond (Nat.ble ((l50.length+v54.1.length+4096) * 1) 17592186044416) (cond (Q3 .eql p.Kind 8)
  ((J7 N y52).bind fun v63=>
  cond (Nat.ble (((l50.length+v54.1.length)+1+4096) * 1) 17592186044416) (Zr N p n (wrap .i64 (s49+1)) ((l50++(v54.1.map fun b=>(b.toNat:Int))) ++ [(wrap .u8 v63)])) none)
  (Zr N p n (wrap .i64 (s49+1)) (l50++(v54.1.map fun b=>(b.toNat:Int))))) none))
  (Wm N p N 0 l50)
def J2 (N:Nat) (p:Q1) (l11:List Int):Option ((List UInt8)×Int):=
 Zr N p N 0 l11
def Q0i (N:Nat) (version:Int) (p:Q1):Option ((List UInt8)×Int):=
 (Q1f N version p).bind fun v1=>
 cond (Q3 .neq v1 0)
 (some ([],v1))
 ((X6 N (wrap .u64 p.ID) 2).bind fun v4=>
 cond (Q3 .eql version 5)
 ((Va N p.Kind p.Props).bind fun v13=>
 cond (Nat.beq v13.1.length 0)
 (J2 N p (v4.map fun b=>(b.toNat:Int)))
 (cond (Nat.ble ((v4.length+v13.1.length+4096) * 1) 17592186044416) (J2 N p ((v4.map fun b=>(b.toNat:Int))++(v13.1.map fun b=>(b.toNat:Int)))) none))
 (J2 N p (v4.map fun b=>(b.toNat:Int))))
theorem Qcz {N} {version} {p} {r} (h:Q0i N version p=some r):pU 239 [.int .i64 version,.agg (Q1.cells p)] (.tuple [.str r.1,.int .i64 r.2]):=by
 refine Q0 Zcf ?_;unfold Q0i at h;rw [cX] at h;refine cP h Qcj (.cons (.p _) (.cons (Ap (Qo (f2_ (f1_ (.cons (.p _) p5))))) .nil)) fun v1 h=>?_;refine iL2 h fun h=>?_;refine cP h Ys p2 fun v4 h=>?_;refine Qj7 (b:=v4) ?_;refine jrA (r:=r) (σ:=(List Int)) (fun l11=>(a2 (.any :: .ptr 0 0::a2 (.any :: .slice 1 2 0 l11.length::a16 (a16 (a16 (a16 (a8 (.any :: []))))))):List AV)) (fun l11=>(.cells (Q67 p ([])) :: .dead :: .cells (Q18 (cI .u8) l11) :: []:List AObj)) (fun l11=>J2 N p l11) ?_ ?_
 ·apply iU h<;>intro h
  ·refine cP h Jn p2 fun v13 h=>?_;refine Qj7 (b:=v13.1) ?_;apply iU h<;>intro h
   ·show Exists _;exact ⟨((v4.map fun b=>(b.toNat:Int))),h,(rho [0,1,1]),Yn⟩
   obtain ⟨hk16,h⟩:=Q99 h;refine Q37 (Wy (c:=(cI .u8)) (e:=1) (l:=(v4.map fun b=>(b.toNat:Int))) (fun _=>rfl) sd hk16) ?_;refine Q0f (c:=(cI .u8)) (l:=(v4.map fun b=>(b.toNat:Int))) (v13.1.map fun b=>(b.toNat:Int)) rfl ?_;show Exists _;exact ⟨(((v4.map fun b=>(b.toNat:Int))++(v13.1.map fun b=>(b.toNat:Int)))),h,(fun i=>i),Yn⟩
  show Exists _;exact ⟨((v4.map fun b=>(b.toNat:Int))),h,(rho [0,1,1]),Yn⟩
 rintro l11 h
 unfold J2 at h;refine lpC (τ:=Int×(List Int)) (fun ⟨s49,l50⟩=>(a2 (.any :: .ptr 0 0::a2 (.any :: .slice 1 3 0 l50.length::a16 (a16 (.any :: .p (.slice 5 (Q6 Qg.cells p.Filters))::iI ((Q6 Qg.cells p.Filters).length:Int)::iI s49::a16 (a16 (a4 (.any :: []))))))):List AV)) (fun ⟨_,l50⟩=>(.cells (Q67 p ([])) :: .dead :: .dead :: .cells (Q18 (cI .u8) l50) :: []:List AObj)) (fun n1 ⟨s49,l50⟩=>Zr N p n1 s49 l50) (0,l11) h (rho [0,1,2,2]) Yn fun n1 ⟨s49,l50⟩ h=>?_
 first | rw [Zr] at h | simp only [Zr] at h
 rw [cX] at h;apply iU h<;>intro h
 ·refine xR h fun y52 h=>?_;refine cP h Q8o p1 fun v54 h=>?_;refine Qj7 (b:=v54.1) ?_;apply iU h<;>intro h
  ·apply iU h<;>intro h
   ·refine cP h Q5j (.cons (Ap p5) .nil) fun v58 h=>?_;obtain ⟨hk60,h⟩:=Q99 h;refine Q37 (Wy (c:=(cI .u8)) (e:=1) (fun _=>rfl) sd hk60) ?_;refine Q0f (c:=(cI .u8)) [(wrap .u8 v58)] rfl ?_;show Exists _;exact ⟨(n1,(wrap .i64 (s49+1)),(l50 ++ [(wrap .u8 v58)])),h,Lf _,(rho [0,1,2,6]),Yn⟩
   show Exists _;exact ⟨(n1,(wrap .i64 (s49+1)),l50),h,Lf _,(fun i=>i),Yn⟩
  obtain ⟨hk61,h⟩:=Q99 h;refine Q37 (Wy (c:=(cI .u8)) (e:=1) (l:=l50) (fun _=>rfl) sd hk61) ?_;refine Q0f (c:=(cI .u8)) (l:=l50) (v54.1.map fun b=>(b.toNat:Int)) rfl ?_;apply iU h<;>intro h
  ·refine cP h Q5j (.cons (Ap p5) .nil) fun v63 h=>?_;obtain ⟨hk65,h⟩:=Q99 h;refine Q37 (Wy (c:=(cI .u8)) (e:=1) (fun _=>rfl) sd hk65) ?_;refine Q0f (c:=(cI .u8)) [(wrap .u8 v63)] rfl ?_;show Exists _;exact ⟨(n1,(wrap .i64 (s49+1)),((l50++(v54.1.map fun b=>(b.toNat:Int))) ++ [(wrap .u8 v63)])),h,Lf _,(rho [0,1,2,7]),Yn⟩
  show Exists _;exact ⟨(n1,(wrap .i64 (s49+1)),(l50++(v54.1.map fun b=>(b.toNat:Int)))),h,Lf _,(rho [0,1,2,5]),Yn⟩
 refine lpC (τ:=Int×(List Int)) (fun ⟨s76,l77⟩=>(a4 (a2 (.any :: .slice 1 4 0 l77.length::a16 (a16 (a16 (a8 (a2 (.any :: .p (.slice 1 (Q6 (cI .i64) p.Codes)) :: .p (.int .i64 ((Q6 (cI .i64) p.Codes).length:Int))::iI s76::a8 (a2 (.any :: []))))))))):List AV)) (fun ⟨_,l77⟩=>(.cells (Q67 p ([])) :: .dead :: .dead :: .dead :: .cells (Q18 (cI .u8) l77) :: []:List AObj)) (fun n2 ⟨s76,l77⟩=>Wm N p n2 s76 l77) (0,l50) h (rho [0,1,2,3,3]) Yn fun n2 ⟨s76,l77⟩ h=>?_
 first | rw [Wm] at h | simp only [Wm] at h
 rw [cX] at h;apply iU h<;>intro h
 ·refine xR h fun y79 h=>?_;obtain ⟨hk81,h⟩:=Q99 h;refine Q37 (Wy (c:=(cI .u8)) (e:=1) (fun _=>rfl) sd hk81) ?_;refine Q0f (c:=(cI .u8)) [(wrap .u8 y79)] rfl ?_;show Exists _;exact ⟨(n2,(wrap .i64 (s76+1)),(l77 ++ [(wrap .u8 y79)])),h,Lf _,(rho [0,1,2,3,6]),Yn⟩
 refine Qhv (l:=l77) (n:=l77.length) sd ?_;obtain rfl:=Qm h;exact u2
def Vf (N:Nat) (d:Zq):Option ((List UInt8)×Int):=
 (Q0i N d.version d.p).bind fun v1=>
 some (v1.1,v1.2)
theorem Jf {N} {d} {r} (h:Vf N d=some r):pU 174 [.agg (Zq.cells d)] (.tuple [.str r.1,.int .i64 r.2]):=by
 refine Q0 Zeg ?_;unfold Vf at h;refine cP h Qcz (.cons (.p _) (.cons (Ap (Qo (f2_ (f1_ (.cons (.p _) p5))))) .nil)) fun v1 h=>?_;obtain rfl:=Qm h;exact u2
def G9 (_N:Nat) (a:U3) (version:Int):Option Bool:=
 some (Q3 .eql version 5)
theorem Q56 {N} {a} {version} {r} (h:G9 N a version=some r):pU 384 [.agg (U3.cells a),.int .i64 version] (.bool r):=by
 refine Q0 Zgd ?_;unfold G9 at h;rw [cX] at h;cases h;exact (.p _)
def Uc (_N:Nat) (a:U3) (version:Int):Option Bool:=
 some false
theorem Q39 {N} {a} {version} {r} (h:Uc N a version=some r):pU 383 [.agg (U3.cells a),.int .i64 version] (.bool r):=by
 refine Q0 Zed ?_;unfold Uc at h;cases h;exact (.p _)
def Gs (N:Nat) (version:Int) (kind:Int):Option (Bool×Bool):=
 cond ((kind:Int) == 12)
 ((Uc N (⟨⟩:U3) version).bind fun v2=>
 some (v2,true))
 (cond ((kind:Int) == 13)
 ((Uc N (⟨⟩:U3) version).bind fun v5=>
 some (v5,true))
 (cond ((kind:Int) == 14)
 ((G9 N (⟨⟩:U3) version).bind fun v8=>
 some (v8,true))
 (cond ((kind:Int) == 15)
 ((G9 N (⟨⟩:U3) version).bind fun v11=>
 some (v11,true))
 (some (false,false)))))
theorem Q9g {N} {version} {kind} {r} (h:Gs N version kind=some r):pU 319 [.int .i64 version,.int .i64 kind] (.tuple [.bool r.1,.bool r.2]):=by
 refine Q0 Zod ?_;unfold Gs at h;apply iU h<;>intro h
 ·refine cP h Q39 (.cons (Ap .nil) p1) fun v2 h=>?_;obtain rfl:=Qm h;exact u2
 apply iU h<;>intro h
 ·refine cP h Q39 (.cons (Ap .nil) p1) fun v5 h=>?_;obtain rfl:=Qm h;exact u2
 apply iU h<;>intro h
 ·refine cP h Q56 (.cons (Ap .nil) p1) fun v8 h=>?_;obtain rfl:=Qm h;exact u2
 refine iR2 h fun h=>?_;refine cP h Q56 (.cons (Ap .nil) p1) fun v11 h=>?_;obtain rfl:=Qm h;exact u2
def Q32 (N:Nat) (version:Int) (kind:Int):Option Int:=
 (Gs N version kind).bind fun v1=>
 cond (!v1.2)
 (some 2)
 (cond (Q3 .neq version 4)
 (cond (Q3 .neq version 5)
 (some 2)
 (cond (Q3 .eql kind 15)
 (cond (Q3 .eql version 4)
 (some 8)
 (some 0))
 (some 0)))
 (cond (Q3 .eql kind 15)
 (cond (Q3 .eql version 4)
 (some 8)
 (some 0))
 (some 0)))
theorem Qfc {N} {version} {kind} {r} (h:Q32 N version kind=some r):pU 318 [.int .i64 version,.int .i64 kind] (.int .i64 r):=by
 refine Q0 Zf1 ?_;unfold Q32 at h;rw [cX] at h;refine cP h Q9g p2 fun v1 h=>?_;refine iL h fun h=>?_;apply iU h<;>intro h
 ·refine iL h fun h=>?_;refine iR h fun h=>?_;exact iB h
 refine iR h fun h=>?_;exact iB h
def Q2x (N:Nat) (version:Int) (p:Q1):Option Int:=
 (Q32 N version p.Kind).bind fun v1=>
 cond (Q3 .neq v1 0)
 (some v1)
 ((Gs N version p.Kind).bind fun v4=>
 cond v4.1
 ((Q0q N p.Kind p.Code).bind fun v7=>
 cond (!v7)
 (some 2)
 ((Z6 N p (⟨p.Kind,false,false,0,0,[],[],false,0,[],false,[],false,[],false,(⟨[],[],0,false,[]⟩:Xn),false,p.Code,[],[],p.Props⟩:Q1)).bind fun v10=>
 cond (!v10)
 (some 2)
 ((X8 N p.Kind p.Props).bind fun v13=>
 some v13)))
 ((Z6 N p (⟨p.Kind,false,false,0,0,[],[],false,0,[],false,[],false,[],false,(⟨[],[],0,false,[]⟩:Xn),false,0,[],[],[]⟩:Q1)).bind fun v15=>
 cond (!v15)
 (some 2)
 ((X8 N p.Kind p.Props).bind fun v18=>
 some v18)))
theorem Qfe {N} {version} {p} {r} (h:Q2x N version p=some r):pU 316 [.int .i64 version,.agg (Q1.cells p)] (.int .i64 r):=by
 refine Q0 Zgo ?_;unfold Q2x at h;rw [cX] at h;refine cP h Qfc p2 fun v1 h=>?_;refine iL h fun h=>?_;refine cP h Q9g p2 fun v4 h=>?_;apply iU h<;>intro h
 ·refine cP h Q31 p2 fun v7 h=>?_;refine iL h fun h=>?_;refine Qk ?_;refine cP h Zc (.cons (Ap (Qo (f2_ (f1_ (.cons (.p _) p5))))) (.cons (Ap (Qo (f2_ (f1_ (.cons (.nil _) (f2_ (.cons (.nil _) (.cons (.nil _) p1)))))))) .nil)) fun v10 h=>?_;refine iL h fun h=>?_;refine cP h Xy p2 fun v13 h=>?_;cases h;exact (.p _)
 refine cP h Zc (.cons (Ap (Qo (f2_ (f1_ (.cons (.p _) p5))))) (.cons (Ap (Qo (f2_ (f1_ (.cons (.nil _) (f2_ (.cons (.nil _) (.cons (.nil _) (.cons (.nil _) .nil))))))))) .nil)) fun v15 h=>?_;refine iL h fun h=>?_;refine cP h Xy p2 fun v18 h=>?_;cases h;exact (.p _)
def Q63 (N:Nat) (code:Int) (l:List Qb) (kind:Int):Option (List UInt8):=
 (Va N kind l).bind fun v1=>
 cond (Q3 .lss code 0)
 (some [])
 (cond (Q3 .gtr code 255)
 (some [])
 (cond (Q3 .neq v1.2 0)
 (some [])
 ((X6 N (wrap .u64 code) 1).bind fun v6=>
 cond (Q3 .gtr ((Q6 Qb.cells l).length:Int) 0)
 (cond (Nat.ble (v6.length+v1.1.length) 4611686018427387904) (some (v6++v1.1)) none)
 (cond (Q3 .gtr code 0)
 (some v6)
 (some [])))))
theorem Qgh {N} {code} {l} {kind} {r} (h:Q63 N code l kind=some r):pU 317 [.int .i64 code,.slice 4 (Q6 Qb.cells l),.int .i64 kind] (.str r):=by
 refine Q0 Z9k ?_;unfold Q63 at h;rw [cX] at h;refine cP h Jn p2 fun v1 h=>?_;refine iL h fun h=>?_;refine iL h fun h=>?_;refine iL h fun h=>?_;refine cP h Ys p2 fun v6 h=>?_;apply iU h<;>intro h
 ·refine kU h fun h=>?_;cases h;exact (.p _)
 exact iB h
def Q2b (N:Nat) (version:Int) (p:Q1):Option ((List UInt8)×Int):=
 (Q2x N version p).bind fun v1=>
 cond (Q3 .neq v1 0)
 (some ([],v1))
 ((Q63 N p.Code p.Props p.Kind).bind fun v4=>
 some (v4,0))
theorem Qfp {N} {version} {p} {r} (h:Q2b N version p=some r):pU 241 [.int .i64 version,.agg (Q1.cells p)] (.tuple [.str r.1,.int .i64 r.2]):=by
 refine Q0 Zkg ?_;unfold Q2b at h;rw [cX] at h;refine cP h Qfe (.cons (.p _) (.cons (Ap (Qo (f2_ (f1_ (.cons (.p _) p5))))) .nil)) fun v1 h=>?_;refine iL2 h fun h=>?_;refine cP h Qgh p3 fun v4 h=>?_;obtain rfl:=Qm h;exact u2
def Un (N:Nat) (d:Zq):Option ((List UInt8)×Int):=
 (Q2b N d.version d.p).bind fun v1=>
 some (v1.1,v1.2)
theorem Gn {N} {d} {r} (h:Un N d=some r):pU 176 [.agg (Zq.cells d)] (.tuple [.str r.1,.int .i64 r.2]):=by
 refine Q0 Zmu ?_;unfold Un at h;refine cP h Qfp (.cons (.p _) (.cons (Ap (Qo (f2_ (f1_ (.cons (.p _) p5))))) .nil)) fun v1 h=>?_;obtain rfl:=Qm h;exact u2
def Q75 (_N:Nat) (version:Int):Option Bool:=
 cond (Q3 .eql version 4)
 (some true)
 (some (Q3 .eql version 5))
theorem Qf6 {N} {version} {r} (h:Q75 N version=some r):pU 322 [.int .i64 version] (.bool r):=by
 refine Q0 Zp8 ?_;unfold Q75 at h;rw [cX] at h;exact iB h
def Jd (_N:Nat) (is:Bool) (e:Int):Option Int:=
 cond is
 (some e)
 (some 0)
theorem Gx {N} {is} {e} {r} (h:Jd N is e=some r):pU 386 [.bool is,.int .i64 e] (.int .i64 r):=by
 refine Q0 Zdz ?_;unfold Jd at h;exact iB h
def Q83 (_N:Nat) (version:Int):Option Bool:=
 cond (Q3 .eql version 4)
 (some true)
 (some (Q3 .eql version 5))
theorem Qbu {N} {version} {r} (h:Q83 N version=some r):pU 131 [.int .i64 version] (.bool r):=by
 refine Q0 Zlj ?_;unfold Q83 at h;rw [cX] at h;exact iB h
def Q46 (_N:Nat) (version:Int) (kind:Int):Option Bool:=
 cond (Q3 .eql version 5)
 (cond (Q3 .geq kind 1)
 (some (Q3 .leq kind 15))
 (some false))
 (cond (Q3 .geq kind 1)
 (some (Q3 .leq kind 14))
 (some false))
theorem Qbz {N} {version} {kind} {r} (h:Q46 N version kind=some r):pU 132 [.int .i64 version,.int .i64 kind] (.bool r):=by
 refine Q0 Znq ?_;unfold Q46 at h;rw [cX] at h;apply iU h<;>intro h
 ·exact iB h
 exact iB h
def Q4i (_N:Nat) (kind:Int):Option Int:=
 cond (Q3 .eql kind 6)
 (some 2)
 (cond (Q3 .eql kind 8)
 (some 2)
 (cond (Q3 .eql kind 10)
 (some 2)
 (some 0)))
theorem Qb9 {N} {kind} {r} (h:Q4i N kind=some r):pU 133 [.int .i64 kind] (.int .i64 r):=by
 refine Q0 Zas ?_;unfold Q4i at h;rw [cX] at h;refine ifO h (fun hc1 h=>?_) (fun hc1 h=>?_)
 ·refine ifT hc1 ?_;cases h;exact (.p _)
 refine ifO h (fun hc2 h=>?_) (fun hc2 h=>?_)
 ·refine ifT hc2 ?_;cases h;exact (.p _)
 exact iB h
def Q0u (N:Nat) (version:Int) (p:Q1):Option (Int×Int):=
 (Q83 N version).bind fun v1=>
 cond (!v1)
 (some (0,2))
 ((Q46 N version p.Kind).bind fun v4=>
 cond (!v4)
 (some (0,8))
 (cond (Q3 .neq p.Kind 3)
 ((Q4i N p.Kind).bind fun v8=>
 some (v8,0))
 (cond (Q3 .lss p.QoS 0)
 (some (0,7))
 (cond (Q3 .gtr p.QoS 2)
 (some (0,7))
 (cond (Q3 .eql p.QoS 0)
 (cond p.Dup
 (some (0,7))
 (cond p.Retain
 (some ((orI .i64 (wrap .i64 (p.QoS * 2)) 1),0))
 (some ((wrap .i64 (p.QoS * 2)),0))))
 (cond p.Retain
 (cond p.Dup
 (some ((orI .i64 (orI .i64 (wrap .i64 (p.QoS * 2)) 1) 8),0))
 (some ((orI .i64 (wrap .i64 (p.QoS * 2)) 1),0)))
 (cond p.Dup
 (some ((orI .i64 (wrap .i64 (p.QoS * 2)) 8),0))
 (some ((wrap .i64 (p.QoS * 2)),0)))))))))
theorem Q7j {N} {version} {p} {r} (h:Q0u N version p=some r):pU 68 [.int .i64 version,.agg (Q1.cells p)] (.tuple [.int .i64 r.1,.int .i64 r.2]):=by
 refine Q0 k68 ?_;unfold Q0u at h;rw [cX] at h;refine cP h Qbu p1 fun v1 h=>?_;refine iL2 h fun h=>?_;refine cP h Qbz p2 fun v4 h=>?_;refine iL2 h fun h=>?_;apply iU h<;>intro h
 ·refine cP h Qb9 p1 fun v8 h=>?_;obtain rfl:=Qm h;exact u2
 refine iL2 h fun h=>?_;refine iL2 h fun h=>?_;apply iU h<;>intro h
 ·refine oL2 h fun hc13 h=>?_;apply iU h<;>intro h
  ·refine ifF hc13 ?_;obtain rfl:=Qm h;exact u2
  refine ifF hc13 ?_;obtain rfl:=Qm h;exact u2
 apply iU h<;>intro h
 ·exact iB2 h
 exact iB2 h
def Q0k (N:Nat) (version:Int) (p:Q1):Option Bool:=
 (Z6 N p (⟨p.Kind,p.Dup,p.Retain,p.QoS,p.ID,p.Topic,p.Payload,false,0,[],false,[],false,[],false,(⟨[],[],0,false,[]⟩:Xn),false,0,[],[],p.Props⟩:Q1)).bind fun v1=>
 cond (!v1)
 (some false)
 (cond (Q3 .eql version 4)
 (cond (Q3 .gtr ((Q6 Qb.cells p.Props).length:Int) 0)
 (some false)
 (cond (Q3 .eql p.QoS 0)
 (some (Q3 .eql p.ID 0))
 (cond (Q3 .gtr p.ID 0)
 (some (Q3 .lss p.ID 65536))
 (some false))))
 (cond (Q3 .eql p.QoS 0)
 (some (Q3 .eql p.ID 0))
 (cond (Q3 .gtr p.ID 0)
 (some (Q3 .lss p.ID 65536))
 (some false))))
theorem Q7m {N} {version} {p} {r} (h:Q0k N version p=some r):pU 389 [.int .i64 version,.agg (Q1.cells p)] (.bool r):=by
 refine Q0 Zfw ?_;unfold Q0k at h;rw [cX] at h;refine cP h Zc (.cons (Ap (Qo (f2_ (f1_ (.cons (.p _) p5))))) (.cons (Ap (Qo (f2_ (f1_ (.cons (.nil _) (f2_ (.cons (.nil _) (.cons (.nil _) p1)))))))) .nil)) fun v1 h=>?_;refine iL h fun h=>?_;apply iU h<;>intro h
 ·refine iL h fun h=>?_;refine iL h fun h=>?_;exact iB h
 refine iL h fun h=>?_;exact iB h
def Q24 (N:Nat) (l:List Qb) (id:Int):Nat→Int→Option (Qb×Bool)
 | 0,_=>none
 | n+1,s10=>
  cond (Q3 .lss s10 ((Q6 Qb.cells l).length:Int))
  ((idx l s10).bind fun y12=>
  cond (Q3 .eql y12.ID id)
  (some (y12,true))
  (Q24 N l id n (wrap .i64 (s10+1))))
  (some ((⟨0,0,[],[]⟩:Qb),false))
def Q9e (N:Nat) (l:List Qb) (id:Int):Option (Qb×Bool):=
 Q24 N l id N 0
theorem Qmt {N} {l} {id} {r} (h:Q9e N l id=some r):pU 473 [.slice 4 (Q6 Qb.cells l),.int .i64 id] (.tuple [.agg (Qb.cells r.1),.bool r.2]):=by
 refine Q0 Zd4 ?_;unfold Q9e at h;refine lpH (τ:=Int) (fun s10=>(.any::iI id :: .any :: .any :: .ptr 0 0::a2 (.any :: .p (.slice 4 (Q6 Qb.cells l))::iI ((Q6 Qb.cells l).length:Int)::iI s10::a8 (a2 ([]))):List AV)) (fun n0 s10=>Q24 N l id n0 s10) (0) h fun n0 s10 h=>?_
 first | rw [Q24] at h | simp only [Q24] at h
 rw [cX] at h;apply iU h<;>intro h
 ·refine xR h fun y12 h=>?_;apply iU h<;>intro h
  ·obtain rfl:=Qm h;exact (Aq (.cons q4 p1))
  show Exists _;exact ⟨(n0,(wrap .i64 (s10+1))),h,Lf _,(fun i=>i),Yn⟩
 obtain rfl:=Qm h;exact (Aq (.cons q4 p1))
def Q52 (N:Nat) (p:Q1):Option (Int×Bool):=
 (Q9e N p.Props 35).bind fun v1=>
 some ((wrap .i64 v1.1.N'),v1.2)
theorem Qen {N} {p} {r} (h:Q52 N p=some r):pU 440 [.agg (Q1.cells p)] (.tuple [.int .i64 r.1,.bool r.2]):=by
 refine Q0 Zjv ?_;unfold Q52 at h;refine cP h Qmt p2 fun v1 h=>?_;obtain rfl:=Qm h;exact u2
def Q1k (N:Nat) (version:Int) (p:Q1):Option Bool:=
 (Q52 N p).bind fun v1=>
 (Jl N p.Topic).bind fun v3=>
 cond v3
 (some true)
 (cond (Q3 .eql version 5)
 (cond v1.2
 (some (Q0p .eql p.Topic []))
 (some false))
 (some false))
theorem Q88 {N} {version} {p} {r} (h:Q1k N version p=some r):pU 391 [.int .i64 version,.agg (Q1.cells p)] (.bool r):=by
 refine Q0 Z9z ?_;unfold Q1k at h;rw [cX,cY] at h;refine cP h Qen (.cons (Ap (Qo (f2_ (f1_ (.cons (.p _) p5))))) .nil) fun v1 h=>?_;refine cP h Q05 p1 fun v3 h=>?_;refine iL h fun h=>?_;refine iR h fun h=>?_;exact iB h
def Q2o (N:Nat) (version:Int) (p:Q1):Option Int:=
 (Q75 N version).bind fun v1=>
 cond (!v1)
 ((Jd N true 2).bind fun v4=>
 cond (Q3 .neq v4 0)
 (some v4)
 ((Q0u N version p).bind fun v7=>
 cond (Q3 .neq v7.2 0)
 (some v7.2)
 ((Q0k N version p).bind fun v10=>
 (Jd N (!v10) 2).bind fun v12=>
 cond (Q3 .neq v12 0)
 (some v12)
 ((Q1k N version p).bind fun v15=>
 (Jd N (!v15) 10).bind fun v17=>
 cond (Q3 .neq v17 0)
 (some v17)
 ((X8 N 3 p.Props).bind fun v20=>
 cond (Q3 .neq v20 0)
 (some v20)
 (some 0))))))
 ((Jd N (Q3 .neq p.Kind 3) 2).bind fun v23=>
 cond (Q3 .neq v23 0)
 (some v23)
 ((Q0u N version p).bind fun v26=>
 cond (Q3 .neq v26.2 0)
 (some v26.2)
 ((Q0k N version p).bind fun v29=>
 (Jd N (!v29) 2).bind fun v31=>
 cond (Q3 .neq v31 0)
 (some v31)
 ((Q1k N version p).bind fun v34=>
 (Jd N (!v34) 10).bind fun v36=>
 cond (Q3 .neq v36 0)
 (some v36)
 ((X8 N 3 p.Props).bind fun v39=>
 cond (Q3 .neq v39 0)
 (some v39)
 (some 0))))))
theorem Qe6 {N} {version} {p} {r} (h:Q2o N version p=some r):pU 321 [.int .i64 version,.agg (Q1.cells p)] (.int .i64 r):=by
 refine Q0 Zhe ?_;unfold Q2o at h;rw [cX] at h;refine Qdd 7 ?_;refine dT ?_;refine Zy Zm2 ?_;refine cP h Qf6 p1 fun v1 h=>?_;apply iU h<;>intro h
 ·refine cP h Gx p2 fun v4 h=>?_;refine iL h fun h=>?_;refine dT ?_;refine Zy Z85 ?_;refine cP h Q7j (.cons (.p _) (.cons (Ap (Qo (f2_ (f1_ (.cons (.p _) p5))))) .nil)) fun v7 h=>?_;refine iL h fun h=>?_;refine dT ?_;refine Zy Z89 ?_;refine cP h Q7m (.cons (.p _) (.cons (Ap (Qo (f2_ (f1_ (.cons (.p _) p5))))) .nil)) fun v10 h=>?_;refine cP h Gx p2 fun v12 h=>?_;refine iL h fun h=>?_;refine dT ?_;refine Zy Z7u ?_;refine cP h Q88 (.cons (.p _) (.cons (Ap (Qo (f2_ (f1_ (.cons (.p _) p5))))) .nil)) fun v15 h=>?_;refine cP h Gx p2 fun v17 h=>?_;refine iL h fun h=>?_;refine dT ?_;refine Zy Z80 ?_;refine cP h Xy p2 fun v20 h=>?_;refine iL h fun h=>?_;refine dF ?_;cases h;exact (.p _)
 refine cP h Gx p2 fun v23 h=>?_;refine iL h fun h=>?_;refine dT ?_;refine Zy Z85 ?_;refine cP h Q7j (.cons (.p _) (.cons (Ap (Qo (f2_ (f1_ (.cons (.p _) p5))))) .nil)) fun v26 h=>?_;refine iL h fun h=>?_;refine dT ?_;refine Zy Z89 ?_;refine cP h Q7m (.cons (.p _) (.cons (Ap (Qo (f2_ (f1_ (.cons (.p _) p5))))) .nil)) fun v29 h=>?_;refine cP h Gx p2 fun v31 h=>?_;refine iL h fun h=>?_;refine dT ?_;refine Zy Z7u ?_;refine cP h Q88 (.cons (.p _) (.cons (Ap (Qo (f2_ (f1_ (.cons (.p _) p5))))) .nil)) fun v34 h=>?_;refine cP h Gx p2 fun v36 h=>?_;refine iL h fun h=>?_;refine dT ?_;refine Zy Z80 ?_;refine cP h Xy p2 fun v39 h=>?_;refine iL h fun h=>?_;refine dF ?_;cases h;exact (.p _)
def Q29 (N:Nat) (version:Int) (p:Q1):Option ((List UInt8)×Int):=
 (Q2o N version p).bind fun v1=>
 cond (Q3 .neq v1 0)
 (some ([],v1))
 ((Gv N p.Topic).bind fun v4=>
 cond (Q3 .neq p.QoS 0)
 ((X6 N (wrap .u64 p.ID) 2).bind fun v7=>
 cond (Nat.ble (v4.1.length+v7.length) 4611686018427387904) (cond (Q3 .eql version 5)
 ((Va N p.Kind p.Props).bind fun v11=>
 cond (Nat.ble ((v4.1++v7).length+v11.1.length) 4611686018427387904) (cond (Nat.ble (((v4.1++v7)++v11.1).length+p.Payload.length) 4611686018427387904) (some ((((v4.1++v7)++v11.1)++p.Payload),0)) none) none)
 (cond (Nat.ble ((v4.1++v7).length+p.Payload.length) 4611686018427387904) (some (((v4.1++v7)++p.Payload),0)) none)) none)
 (cond (Q3 .eql version 5)
 ((Va N p.Kind p.Props).bind fun v17=>
 cond (Nat.ble (v4.1.length+v17.1.length) 4611686018427387904) (cond (Nat.ble ((v4.1++v17.1).length+p.Payload.length) 4611686018427387904) (some (((v4.1++v17.1)++p.Payload),0)) none) none)
 (cond (Nat.ble (v4.1.length+p.Payload.length) 4611686018427387904) (some ((v4.1++p.Payload),0)) none)))
theorem Qfu {N} {version} {p} {r} (h:Q29 N version p=some r):pU 243 [.int .i64 version,.agg (Q1.cells p)] (.tuple [.str r.1,.int .i64 r.2]):=by
 refine Q0 Zk6 ?_;unfold Q29 at h;rw [cX] at h;refine cP h Qe6 (.cons (.p _) (.cons (Ap (Qo (f2_ (f1_ (.cons (.p _) p5))))) .nil)) fun v1 h=>?_;refine iL2 h fun h=>?_;refine cP h Q8o p1 fun v4 h=>?_;apply iU h<;>intro h
 ·refine cP h Ys p2 fun v7 h=>?_;refine kU h fun h=>?_;apply iU h<;>intro h
  ·refine cP h Jn p2 fun v11 h=>?_;refine kU h fun h=>?_;refine kU h fun h=>?_;obtain rfl:=Qm h;exact u2
  refine kU h fun h=>?_;obtain rfl:=Qm h;exact u2
 apply iU h<;>intro h
 ·refine cP h Jn p2 fun v17 h=>?_;refine kU h fun h=>?_;refine kU h fun h=>?_;obtain rfl:=Qm h;exact u2
 refine kU h fun h=>?_;obtain rfl:=Qm h;exact u2
def Q3d (N:Nat) (d:Zq):Option ((List UInt8)×Int):=
 (Q29 N d.version d.p).bind fun v1=>
 some (v1.1,v1.2)
theorem Q9n {N} {d} {r} (h:Q3d N d=some r):pU 178 [.agg (Zq.cells d)] (.tuple [.str r.1,.int .i64 r.2]):=by
 refine Q0 Zms ?_;unfold Q3d at h;refine cP h Qfu (.cons (.p _) (.cons (Ap (Qo (f2_ (f1_ (.cons (.p _) p5))))) .nil)) fun v1 h=>?_;obtain rfl:=Qm h;exact u2
theorem Qds:pU 92 [] (.pmap [(.int .i64 1,.agg [.func (.func 170) [] [],.func (.func 171) [] []]),(.int .i64 2,.agg [.func (.func 170) [] [],.func (.func 171) [] []]),(.int .i64 3,.agg [.func (.func 178) [] [],.func (.func 179) [] []]),(.int .i64 4,.agg [.func (.func 172) [] [],.func (.func 173) [] []]),(.int .i64 5,.agg [.func (.func 172) [] [],.func (.func 173) [] []]),(.int .i64 6,.agg [.func (.func 172) [] [],.func (.func 173) [] []]),(.int .i64 7,.agg [.func (.func 172) [] [],.func (.func 173) [] []]),(.int .i64 8,.agg [.func (.func 174) [] [],.func (.func 175) [] []]),(.int .i64 9,.agg [.func (.func 174) [] [],.func (.func 175) [] []]),(.int .i64 10,.agg [.func (.func 174) [] [],.func (.func 175) [] []]),(.int .i64 11,.agg [.func (.func 174) [] [],.func (.func 175) [] []]),(.int .i64 12,.agg [.func (.func 176) [] [],.func (.func 177) [] []]),(.int .i64 13,.agg [.func (.func 176) [] [],.func (.func 177) [] []]),(.int .i64 14,.agg [.func (.func 176) [] [],.func (.func 177) [] []]),(.int .i64 15,.agg [.func (.func 176) [] [],.func (.func 177) [] []])]):=Uq Qaq (N:=2000) (d:=60) (by kernel_rfl)
def Q16 (N:Nat) (version:Int) (p:Q1) (s6:Bool):Option ((List UInt8)×Int):=
 cond s6
 (some ([],2))
 (cond ((p.Kind:Int) == 1)
 ((Q1b N (⟨version,p⟩:Zq)).bind fun v10=>
 cond (Q3 .neq v10.2 0)
 (some ([],v10.2))
 (cond (Q3 .gtr (v10.1.length:Int) 268435455)
 (some ([],4))
 (some (v10.1,0))))
 (cond ((p.Kind:Int) == 2)
 ((Q1b N (⟨version,p⟩:Zq)).bind fun v15=>
 cond (Q3 .neq v15.2 0)
 (some ([],v15.2))
 (cond (Q3 .gtr (v15.1.length:Int) 268435455)
 (some ([],4))
 (some (v15.1,0))))
 (cond ((p.Kind:Int) == 3)
 ((Q3d N (⟨version,p⟩:Zq)).bind fun v20=>
 cond (Q3 .neq v20.2 0)
 (some ([],v20.2))
 (cond (Q3 .gtr (v20.1.length:Int) 268435455)
 (some ([],4))
 (some (v20.1,0))))
 (cond ((p.Kind:Int) == 4)
 ((Q0j N (⟨version,p⟩:Zq)).bind fun v25=>
 cond (Q3 .neq v25.2 0)
 (some ([],v25.2))
 (cond (Q3 .gtr (v25.1.length:Int) 268435455)
 (some ([],4))
 (some (v25.1,0))))
 (cond ((p.Kind:Int) == 5)
 ((Q0j N (⟨version,p⟩:Zq)).bind fun v30=>
 cond (Q3 .neq v30.2 0)
 (some ([],v30.2))
 (cond (Q3 .gtr (v30.1.length:Int) 268435455)
 (some ([],4))
 (some (v30.1,0))))
 (cond ((p.Kind:Int) == 6)
 ((Q0j N (⟨version,p⟩:Zq)).bind fun v35=>
 cond (Q3 .neq v35.2 0)
 (some ([],v35.2))
 (cond (Q3 .gtr (v35.1.length:Int) 268435455)
 (some ([],4))
 (some (v35.1,0))))
 (cond ((p.Kind:Int) == 7)
 ((Q0j N (⟨version,p⟩:Zq)).bind fun v40=>
 cond (Q3 .neq v40.2 0)
 (some ([],v40.2))
 (cond (Q3 .gtr (v40.1.length:Int) 268435455)
 (some ([],4))
 (some (v40.1,0))))
 (cond ((p.Kind:Int) == 8)
 ((Vf N (⟨version,p⟩:Zq)).bind fun v45=>
 cond (Q3 .neq v45.2 0)
 (some ([],v45.2))
 (cond (Q3 .gtr (v45.1.length:Int) 268435455)
 (some ([],4))
 (some (v45.1,0))))
 (cond ((p.Kind:Int) == 9)
 ((Vf N (⟨version,p⟩:Zq)).bind fun v50=>
 cond (Q3 .neq v50.2 0)
 (some ([],v50.2))
 (cond (Q3 .gtr (v50.1.length:Int) 268435455)
 (some ([],4))
 (some (v50.1,0))))
 (cond ((p.Kind:Int) == 10)
 ((Vf N (⟨version,p⟩:Zq)).bind fun v55=>
 cond (Q3 .neq v55.2 0)
 (some ([],v55.2))
 (cond (Q3 .gtr (v55.1.length:Int) 268435455)
 (some ([],4))
 (some (v55.1,0))))
 (cond ((p.Kind:Int) == 11)
 ((Vf N (⟨version,p⟩:Zq)).bind fun v60=>
 cond (Q3 .neq v60.2 0)
 (some ([],v60.2))
 (cond (Q3 .gtr (v60.1.length:Int) 268435455)
 (some ([],4))
 (some (v60.1,0))))
 (cond ((p.Kind:Int) == 12)
 ((Un N (⟨version,p⟩:Zq)).bind fun v65=>
 cond (Q3 .neq v65.2 0)
 (some ([],v65.2))
 (cond (Q3 .gtr (v65.1.length:Int) 268435455)
 (some ([],4))
 (some (v65.1,0))))
 (cond ((p.Kind:Int) == 13)
 ((Un N (⟨version,p⟩:Zq)).bind fun v70=>
 cond (Q3 .neq v70.2 0)
 (some ([],v70.2))
 (cond (Q3 .gtr (v70.1.length:Int) 268435455)
 (some ([],4))
 (some (v70.1,0))))
 (cond ((p.Kind:Int) == 14)
 ((Un N (⟨version,p⟩:Zq)).bind fun v75=>
 cond (Q3 .neq v75.2 0)
 (some ([],v75.2))
 (cond (Q3 .gtr (v75.1.length:Int) 268435455)
 (some ([],4))
 (some (v75.1,0))))
 (cond ((p.Kind:Int) == 15)
 (cond (Q3 .eql version 4)
 (some ([],8))
 ((Un N (⟨version,p⟩:Zq)).bind fun v82=>
 cond (Q3 .neq v82.2 0)
 (some ([],v82.2))
 (cond (Q3 .gtr (v82.1.length:Int) 268435455)
 (some ([],4))
 (some (v82.1,0)))))
 (some ([],8)))))))))))))))))
def Q5q (N:Nat) (version:Int) (p:Q1):Option ((List UInt8)×Int):=
 cond (Q3 .neq version 4)
 (Q16 N version p (Q3 .neq version 5))
 (Q16 N version p false)
theorem Qct {N} {version} {p} {r} (h:Q5q N version p=some r):pU 52 [.int .i64 version,.agg (Q1.cells p)] (.tuple [.str r.1,.int .i64 r.2]):=by
 refine Q0 k52 ?_;unfold Q5q at h;rw [cX] at h;refine Y2 ?_;refine jrH (r:=r) (σ:=Bool) (fun s6=>(iI version :: .any :: .any :: .ptr 0 0::a8 (a2 (.any :: .p (.bool s6)::a16 (a16 (a2 ([]))))):List AV)) (fun s6=>Q16 N version p s6) ?_ ?_
 ·apply iU h<;>intro h
  ·show Exists _;exact ⟨((Qlv .neq version 5)),h,(fun i=>i),Yn⟩
  show Exists _;exact ⟨(false),h,(fun i=>i),Yn⟩
 rintro s6 h
 unfold Q16 at h;rw [cX] at h;refine iL2 h fun h=>?_;refine Qk ?_;refine Q48 Qds .nil ?_;refine Q77 h (fun hc9 h=>?_) (fun hc9 h=>?_)
 ·refine Y2 ?_;refine Y2 ?_;refine ifF (Qpw hc9 (by decide)) ?_;refine cP h Q4t (.cons (Ap (Qo (f4_ (.cons (.p _) p5)))) .nil) fun v10 h=>?_;refine iL2 h fun h=>?_;exact iB2 h
 refine Q77 h (fun hc14 h=>?_) (fun hc14 h=>?_)
 ·refine Y2 ?_;refine Y2 ?_;refine ifF (Qpw hc14 (by decide)) ?_;refine cP h Q4t (.cons (Ap (Qo (f4_ (.cons (.p _) p5)))) .nil) fun v15 h=>?_;refine iL2 h fun h=>?_;exact iB2 h
 refine Q77 h (fun hc19 h=>?_) (fun hc19 h=>?_)
 ·refine Y2 ?_;refine Y2 ?_;refine ifF (Qpw hc19 (by decide)) ?_;refine cP h Q9n (.cons (Ap (Qo (f4_ (.cons (.p _) p5)))) .nil) fun v20 h=>?_;refine iL2 h fun h=>?_;exact iB2 h
 refine Q77 h (fun hc24 h=>?_) (fun hc24 h=>?_)
 ·refine Y2 ?_;refine Y2 ?_;refine ifF (Qpw hc24 (by decide)) ?_;refine cP h Q1x (.cons (Ap (Qo (f4_ (.cons (.p _) p5)))) .nil) fun v25 h=>?_;refine iL2 h fun h=>?_;exact iB2 h
 refine Q77 h (fun hc29 h=>?_) (fun hc29 h=>?_)
 ·refine Y2 ?_;refine Y2 ?_;refine ifF (Qpw hc29 (by decide)) ?_;refine cP h Q1x (.cons (Ap (Qo (f4_ (.cons (.p _) p5)))) .nil) fun v30 h=>?_;refine iL2 h fun h=>?_;exact iB2 h
 refine Q77 h (fun hc34 h=>?_) (fun hc34 h=>?_)
 ·refine Y2 ?_;refine Y2 ?_;refine ifF (Qpw hc34 (by decide)) ?_;refine cP h Q1x (.cons (Ap (Qo (f4_ (.cons (.p _) p5)))) .nil) fun v35 h=>?_;refine iL2 h fun h=>?_;exact iB2 h
 refine Q77 h (fun hc39 h=>?_) (fun hc39 h=>?_)
 ·refine Y2 ?_;refine Y2 ?_;refine ifF (Qpw hc39 (by decide)) ?_;refine cP h Q1x (.cons (Ap (Qo (f4_ (.cons (.p _) p5)))) .nil) fun v40 h=>?_;refine iL2 h fun h=>?_;exact iB2 h
 refine Q77 h (fun hc44 h=>?_) (fun hc44 h=>?_)
 ·refine Y2 ?_;refine Y2 ?_;refine ifF (Qpw hc44 (by decide)) ?_;refine cP h Jf (.cons (Ap (Qo (f4_ (.cons (.p _) p5)))) .nil) fun v45 h=>?_;refine iL2 h fun h=>?_;exact iB2 h
 refine Q77 h (fun hc49 h=>?_) (fun hc49 h=>?_)
 ·refine Y2 ?_;refine Y2 ?_;refine ifF (Qpw hc49 (by decide)) ?_;refine cP h Jf (.cons (Ap (Qo (f4_ (.cons (.p _) p5)))) .nil) fun v50 h=>?_;refine iL2 h fun h=>?_;exact iB2 h
 refine Q77 h (fun hc54 h=>?_) (fun hc54 h=>?_)
 ·refine Y2 ?_;refine Y2 ?_;refine ifF (Qpw hc54 (by decide)) ?_;refine cP h Jf (.cons (Ap (Qo (f4_ (.cons (.p _) p5)))) .nil) fun v55 h=>?_;refine iL2 h fun h=>?_;exact iB2 h
 refine Q77 h (fun hc59 h=>?_) (fun hc59 h=>?_)
 ·refine Y2 ?_;refine Y2 ?_;refine ifF (Qpw hc59 (by decide)) ?_;refine cP h Jf (.cons (Ap (Qo (f4_ (.cons (.p _) p5)))) .nil) fun v60 h=>?_;refine iL2 h fun h=>?_;exact iB2 h
 refine Q77 h (fun hc64 h=>?_) (fun hc64 h=>?_)
 ·refine Y2 ?_;refine Y2 ?_;refine ifF (Qpw hc64 (by decide)) ?_;refine cP h Gn (.cons (Ap (Qo (f4_ (.cons (.p _) p5)))) .nil) fun v65 h=>?_;refine iL2 h fun h=>?_;exact iB2 h
 refine Q77 h (fun hc69 h=>?_) (fun hc69 h=>?_)
 ·refine Y2 ?_;refine Y2 ?_;refine ifF (Qpw hc69 (by decide)) ?_;refine cP h Gn (.cons (Ap (Qo (f4_ (.cons (.p _) p5)))) .nil) fun v70 h=>?_;refine iL2 h fun h=>?_;exact iB2 h
 refine Q77 h (fun hc74 h=>?_) (fun hc74 h=>?_)
 ·refine Y2 ?_;refine Y2 ?_;refine ifF (Qpw hc74 (by decide)) ?_;refine cP h Gn (.cons (Ap (Qo (f4_ (.cons (.p _) p5)))) .nil) fun v75 h=>?_;refine iL2 h fun h=>?_;exact iB2 h
 refine Q77 h (fun hc79 h=>?_) (fun hc79 h=>?_)
 ·refine Y2 ?_;refine Y2 ?_;refine ifT (Qpw hc79 (by decide)) ?_;refine iL2 h fun h=>?_;refine cP h Gn (.cons (Ap (Qo (f4_ (.cons (.p _) p5)))) .nil) fun v82 h=>?_;refine iL2 h fun h=>?_;exact iB2 h
 refine Z4z ?_;refine Y2 ?_;refine Y2 ?_;obtain rfl:=Qm h;exact u2
def Q1n (N:Nat) (version:Int) (p:Q1):Option Int:=
 (Q5q N version p).bind fun v1=>
 some v1.2
theorem Q7c {N} {version} {p} {r} (h:Q1n N version p=some r):pU 24 [.int .i64 version,.agg (Q1.cells p)] (.int .i64 r):=by
 refine Q0 k24 ?_;unfold Q1n at h;refine cP h Qct (.cons (.p _) (.cons (Ap (Qo (f2_ (f1_ (.cons (.p _) p5))))) .nil)) fun v1 h=>?_;cases h;exact (.p _)
def Q2s (_N:Nat) (proto:Int) (p:Q1):Option Qe:=
 some (⟨proto,2,[],[],0,false,false,0,[],0,[],0,p,(⟨0,(⟨false,0,false,false,false,0⟩:Q3i),0,0,0,false,0,0,0,[],[]⟩:Qcw),(⟨0,0,[],[]⟩:Yy)⟩:Qe)
theorem Q8p {N} {proto} {p} {r} (h:Q2s N proto p=some r):pU 25 [.int .i64 proto,.agg (Q1.cells p)] (.agg (Qe.cells r)):=by
 refine Q0 k25 ?_;unfold Q2s at h;obtain rfl:=Qm h;exact (Ap (f8_ (.cons (.nil _) (.cons (.p _) (.cons (.nil _) (Qo (Qo (f8_ (f4_ (f1_ (.cons (.nil _) .nil)))))))))))
def Q1t (_N:Nat) (proto:Int) (p:Q1):Option Qe:=
 some (⟨proto,1,p.Topic,p.Payload,p.QoS,p.Retain,p.Dup,p.ID,p.Props,0,[],0,(⟨0,false,false,0,0,[],[],false,0,[],false,[],false,[],false,(⟨[],[],0,false,[]⟩:Xn),false,0,[],[],[]⟩:Q1),(⟨0,(⟨false,0,false,false,false,0⟩:Q3i),0,0,0,false,0,0,0,[],[]⟩:Qcw),(⟨0,0,[],[]⟩:Yy)⟩:Qe)
theorem Q7r {N} {proto} {p} {r} (h:Q1t N proto p=some r):pU 26 [.int .i64 proto,.agg (Q1.cells p)] (.agg (Qe.cells r)):=by
 refine Q0 k26 ?_;unfold Q1t at h;obtain rfl:=Qm h;exact (Ap (f8_ (f2_ (.cons (.nil _) (Qo (f4_ (.cons (.nil _) (f2_ (.cons (.nil _) (.cons (.nil _) (.cons (.nil _) (Qo (f2_ (f1_ (.cons (.nil _) .nil)))))))))))))))
def Q0n (rz:Q2→Option Q2) (N:Nat) (v:Q2):Nat→Int→(List Q2)→Option Q2
 | 0,_,_=>none
 | n+1,s14,l15=>
  cond (Q3 .lss s14 ((Q2.rows v.Items).length:Int))
  ((idx v.Items s14).bind fun y17=>
  (rz y17).bind fun v19=>
  cond (Nat.ble ((l15.length+1+4096) * 56) 17592186044416) (Q0n rz N v n (wrap .i64 (s14+1)) (l15 ++ [v19])) none)
  (some (⟨v.Kind,v.N',v.Text,l15⟩:Q2))
def Q7a (rz:Q2→Option Q2) (N:Nat) (v:Q2):Option Q2:=
 Q0n rz N v N 0 []
theorem Qeh {rz:Q2→Option Q2} (hy1:∀ {v} {r},rz v=some r→pU 56 [.agg (Q2.cells v)] (.agg (Q2.cells r))) {N} {v} {r} (h:Q7a rz N v=some r):pU 56 [.agg (Q2.cells v)] (.agg (Q2.cells r)):=by
 refine Q0 k56 ?_;unfold Q7a at h;refine lpA (τ:=Int×(List Q2)) (fun ⟨s14,_⟩=>(.any :: .any :: .ptr 1 0 :: .ptr 2 0::a8 (a2 (.p (.slice 4 (Q2.rows v.Items))::iI ((Q2.rows v.Items).length:Int)::iI s14::a8 (a4 ([])))):List AV)) (fun ⟨_,l15⟩=>(.cells (iI v.Kind::iW v.N'::iS v.Text :: .p (.slice 4 (Q2.rows v.Items)) :: []) :: .cells (iI 0::iW 0::iS [] :: .p .nilSlice :: []) :: .cells (iI v.Kind::iW v.N'::iS v.Text :: .slice 4 3 0 l15.length :: []) :: .cells (Q18 Q2.cells l15) :: []:List AObj)) (fun n0 ⟨s14,l15⟩=>Q0n rz N v n0 s14 l15) (0,[]) h fun n0 ⟨s14,l15⟩ h=>?_
 first | rw [Q0n] at h | simp only [Q0n] at h
 rw [cX] at h;apply iU h<;>intro h
 ·refine Q2.xR h fun y17 h=>?_;refine Qk ?_;refine cD h hy1 (.cons q4 .nil) fun v19 h=>?_;obtain ⟨hk21,h⟩:=Q99 h;refine Q37 (Wy (c:=Q2.cells) (e:=4) (fun _=>rfl) sd hk21) ?_;refine Q0f (c:=Q2.cells) [v19] rfl ?_;show Exists _;exact ⟨(n0,(wrap .i64 (s14+1)),(l15 ++ [v19])),h,Lf _,(rho [0,1,2,6]),Yn⟩
 obtain rfl:=Qm h;exact (Ap (f2_ (f1_ (.cons (Q2.frz_own (l:=l15) rfl trivial sd) .nil))))
def Q4x:Nat→Q2→Option Q2
 | 0=>fun _=>none
 | N+1=>Q7a (Q4x N) N
theorem Qf7 {N} {v} {r} (h:Q4x N v=some r):pU 56 [.agg (Q2.cells v)] (.agg (Q2.cells r)):=by
 induction N generalizing v r with
 | zero=>simp [Q4x] at h
 | succ N ih=>exact Qeh (fun h=>ih h) h
def Q78 (N:Nat) (p:Q1):Option (Q1):=
 (Qa5 N p.Codes).bind fun v1=>
 (Q62 N p.Filters).bind fun v3=>
 (Q44 N p.Props).bind fun v5=>
 (Q44 N p.Will.Props).bind fun v7=>
 some (⟨p.Kind,p.Dup,p.Retain,p.QoS,p.ID,p.Topic,p.Payload,p.Clean,p.KeepAlive,p.Client,p.HasUser,p.User,p.HasPass,p.Pass,p.HasWill,(⟨p.Will.Topic,p.Will.Payload,p.Will.QoS,p.Will.Retain,v7⟩:Xn),p.Session,p.Code,v1,v3,v5⟩:Q1)
theorem Qjt {N} {p} {r} (h:Q78 N p=some r):pU 55 [.agg (Q1.cells p)] (.agg (Q1.cells r)):=by
 refine Q0 k55 ?_;unfold Q78 at h;refine Qk ?_;refine dcO h Qj5 [2] (fun v1 => .slice 1 2 0 v1.length) (rE rfl <| rN) fun v1 h=>?_;refine dcO h Qep [3] (fun v3 => .slice 5 3 0 v3.length) (rE rfl <| rN) fun v3 h=>?_;refine Qk ?_;refine dcO h Q6m [4] (fun v5 => .slice 4 4 0 v5.length) (rE rfl <| rN) fun v5 h=>?_;refine dcO h Q6m [5] (fun v7 => .slice 4 5 0 v7.length) (rE rfl <| rN) fun v7 h=>?_;obtain rfl:=Qm h;exact (Ap (Qo (f2_ (f1_ (.cons (frz_own (c:=Qb.cells) (l:=(v7:List Qb)) (fun _=>rfl) rfl trivial sd) (f2_ (.cons (frz_own (c:=(cI .i64)) (l:=(v1:List Int)) (fun _=>rfl) rfl trivial sd) (.cons (frz_own (c:=Qg.cells) (l:=(v3:List Qg)) (fun _=>rfl) rfl trivial sd) (.cons (frz_own (c:=Qb.cells) (l:=(v5:List Qb)) (fun _=>rfl) rfl trivial sd) .nil)))))))))
def Q2n (N:Nat) (e:Qe) (v1:List Qb) (v3:List Q3f) (v5:Q1):Nat→Int→(List Q2)→Option Qe
 | 0,_,_=>none
 | n+1,s20,l21=>
  cond (Q3 .lss s20 ((Q2.rows e.Frame.Values).length:Int))
  ((idx e.Frame.Values s20).bind fun y23=>
  (Q4x N y23).bind fun v25=>
  cond (Nat.ble ((l21.length+1+4096) * 56) 17592186044416) (Q2n N e v1 v3 v5 n (wrap .i64 (s20+1)) (l21 ++ [v25])) none)
  (some (⟨e.Proto,e.Kind,e.Topic,e.Payload,e.QoS,e.Retain,e.Dup,e.ID,v1,e.Type',v3,e.Channel,v5,e.Msg,(⟨e.Frame.Type',e.Frame.Channel,e.Frame.Ext,l21⟩:Yy)⟩:Qe))
def Q0t (N:Nat) (e:Qe):Option Qe:=
 (Q44 N e.Props).bind fun v1=>
 (Q9z N e.Hops).bind fun v3=>
 (Q78 N e.Packet).bind fun v5=>
 Q2n N e v1 v3 v5 N 0 []
theorem Q5f {N} {e} {r} (h:Q0t N e=some r):pU 27 [.agg (Qe.cells e)] (.agg (Qe.cells r)):=by
 refine Q0 k27 ?_;unfold Q0t at h;refine cO h Q6m (fun v1 => .slice 4 3 0 v1.length) (rE rfl <| rN) fun v1 h=>?_;refine cO h Qip (fun v3 => .slice 2 4 0 v3.length) (rE rfl <| rN) fun v3 h=>?_;refine cP h Qjt (.cons (Ap (Qo (f2_ (f1_ (.cons (.p _) p5))))) .nil) fun v5 h=>?_;refine lpA (τ:=Int×(List Q2)) (fun ⟨s20,_⟩=>(.any :: .any :: .ptr 1 0 :: .ptr 2 0::a16 (a2 (.any :: .p (.slice 4 (Q2.rows e.Frame.Values))::iI ((Q2.rows e.Frame.Values).length:Int)::iI s20::a8 (a4 (a2 ([]))))):List AV)) (fun ⟨_,l21⟩=>(.cells (Q5z e ([])) :: .cells (iI 0::iI 0::iS []::iS []::iI 0 :: .p (.bool false) :: .p (.bool false)::iI 0 :: .p .nilSlice::iI 0 :: .p .nilSlice::iI 0::iI 0 :: .p (.bool false) :: .p (.bool false)::iI 0::iI 0::iS []::iS [] :: .p (.bool false)::iI 0::iS [] :: .p (.bool false)::iS [] :: .p (.bool false)::iS [] :: .p (.bool false)::iS []::iS []::iI 0 :: .p (.bool false) :: .p .nilSlice :: .p (.bool false)::iI 0 :: .p .nilSlice :: .p .nilSlice :: .p .nilSlice::iI 0 :: .p (.bool false)::iI 0 :: .p (.bool false) :: .p (.bool false) :: .p (.bool false)::iI 0::iI 0::iI 0::iI 0 :: .p (.bool false)::iI 0::iI 0::iI 0::iS []::iS []::iI 0::iI 0::iS [] :: .p .nilSlice :: []) :: .cells (iI e.Proto::iI e.Kind::iS e.Topic::iS e.Payload::iI e.QoS :: .p (.bool e.Retain) :: .p (.bool e.Dup)::iI e.ID :: .slice 4 3 0 v1.length::iI e.Type' :: .slice 2 4 0 v3.length::iI e.Channel::Q67 v5 (Z5e e.Msg (iI e.Frame.Type'::iI e.Frame.Channel::iS e.Frame.Ext :: .slice 4 5 0 l21.length :: []))) :: .cells (Q18 Qb.cells v1) :: .cells (Q18 Q3f.cells v3) :: .cells (Q18 Q2.cells l21) :: []:List AObj)) (fun n0 ⟨s20,l21⟩=>Q2n N e v1 v3 v5 n0 s20 l21) (0,[]) h fun n0 ⟨s20,l21⟩ h=>?_
 first | rw [Q2n] at h | simp only [Q2n] at h
 rw [cX] at h;apply iU h<;>intro h
 ·refine Q2.xR h fun y23 h=>?_;refine Qk ?_;refine cD h Qf7 (.cons q4 .nil) fun v25 h=>?_;obtain ⟨hk27,h⟩:=Q99 h;refine Q37 (Wy (c:=Q2.cells) (e:=4) (fun _=>rfl) sd hk27) ?_;refine Q0f (c:=Q2.cells) [v25] rfl ?_;show Exists _;exact ⟨(n0,(wrap .i64 (s20+1)),(l21 ++ [v25])),h,Lf _,(rho [0,1,2,3,4,8]),Yn⟩
 obtain rfl:=Qm h;exact (Ap (f8_ (.cons (frz_own (c:=Qb.cells) (l:=(v1:List Qb)) (fun _=>rfl) rfl trivial sd) (.cons (.p _) (.cons (frz_own (c:=Q3f.cells) (l:=(v3:List Q3f)) (fun _=>rfl) rfl trivial sd) (Qo (Qo (f8_ (f4_ (f1_ (.cons (Q2.frz_own (l:=l21) rfl trivial sd) .nil)))))))))))
def Vh (N:Nat) (version:Int) (p:Q1):Option (Qe×Int):=
 (Q3s N version).bind fun v1=>
 cond (!v1.2)
 (some ((⟨0,0,[],[],0,false,false,0,[],0,[],0,(⟨0,false,false,0,0,[],[],false,0,[],false,[],false,[],false,(⟨[],[],0,false,[]⟩:Xn),false,0,[],[],[]⟩:Q1),(⟨0,(⟨false,0,false,false,false,0⟩:Q3i),0,0,0,false,0,0,0,[],[]⟩:Qcw),(⟨0,0,[],[]⟩:Yy)⟩:Qe),2))
 ((Q1n N version p).bind fun v4=>
 cond (Q3 .neq v4 0)
 (some ((⟨0,0,[],[],0,false,false,0,[],0,[],0,(⟨0,false,false,0,0,[],[],false,0,[],false,[],false,[],false,(⟨[],[],0,false,[]⟩:Xn),false,0,[],[],[]⟩:Q1),(⟨0,(⟨false,0,false,false,false,0⟩:Q3i),0,0,0,false,0,0,0,[],[]⟩:Qcw),(⟨0,0,[],[]⟩:Yy)⟩:Qe),v4))
 (cond (Q3 .eql p.Kind 3)
 (cond (Q0p .eql p.Topic [])
 (some ((⟨0,0,[],[],0,false,false,0,[],0,[],0,(⟨0,false,false,0,0,[],[],false,0,[],false,[],false,[],false,(⟨[],[],0,false,[]⟩:Xn),false,0,[],[],[]⟩:Q1),(⟨0,(⟨false,0,false,false,false,0⟩:Q3i),0,0,0,false,0,0,0,[],[]⟩:Qcw),(⟨0,0,[],[]⟩:Yy)⟩:Qe),11))
 ((Q1t N v1.1 p).bind fun v9=>
 (Q0t N v9).bind fun v11=>
 some (v11,0)))
 ((Q2s N v1.1 p).bind fun v13=>
 (Q0t N v13).bind fun v15=>
 some (v15,0))))
theorem Q0h {N} {version} {p} {r} (h:Vh N version p=some r):pU 9 [.int .i64 version,.agg (Q1.cells p)] (.tuple [.agg (Qe.cells r.1),.int .i64 r.2]):=by
 refine Q0 k9 ?_;unfold Vh at h;rw [cX,cY] at h;refine cP h Qcy p1 fun v1 h=>?_;apply iU h<;>intro h
 ·obtain rfl:=Qm h;exact (Aq (.cons (Ap (f8_ (.cons (.nil _) (.cons (.p _) (.cons (.nil _) (Qo (f4_ (.cons (.nil _) (f2_ (.cons (.nil _) (.cons (.nil _) (.cons (.nil _) (Qo (f2_ (f1_ (.cons (.nil _) .nil)))))))))))))))) p1))
 refine cP h Q7c (.cons (.p _) (.cons (Ap (Qo (f2_ (f1_ (.cons (.p _) p5))))) .nil)) fun v4 h=>?_;apply iU h<;>intro h
 ·obtain rfl:=Qm h;exact (Aq (.cons (Ap (f8_ (.cons (.nil _) (.cons (.p _) (.cons (.nil _) (Qo (f4_ (.cons (.nil _) (f2_ (.cons (.nil _) (.cons (.nil _) (.cons (.nil _) (Qo (f2_ (f1_ (.cons (.nil _) .nil)))))))))))))))) p1))
 apply iU h<;>intro h
 ·apply iU h<;>intro h
  ·obtain rfl:=Qm h;exact (Aq (.cons (Ap (f8_ (.cons (.nil _) (.cons (.p _) (.cons (.nil _) (Qo (f4_ (.cons (.nil _) (f2_ (.cons (.nil _) (.cons (.nil _) (.cons (.nil _) (Qo (f2_ (f1_ (.cons (.nil _) .nil)))))))))))))))) p1))
  refine cP h Q7r (.cons (.p _) (.cons (Ap (Qo (f2_ (f1_ (.cons (.p _) p5))))) .nil)) fun v9 h=>?_;refine cP h Q5f p1 fun v11 h=>?_;obtain rfl:=Qm h;exact (Aq (.cons (Ap (Qo (Qo (Qo (f2_ (f1_ (.cons (.p _) p5))))))) p1))
 refine cP h Q8p (.cons (.p _) (.cons (Ap (Qo (f2_ (f1_ (.cons (.p _) p5))))) .nil)) fun v13 h=>?_;refine cP h Q5f p1 fun v15 h=>?_;obtain rfl:=Qm h;exact (Aq (.cons (Ap (Qo (Qo (Qo (f2_ (f1_ (.cons (.p _) p5))))))) p1))
def Q4y (_N:Nat):Option (Q1):=
 some (⟨3,false,false,0,0,[97,47,98],[104,105],false,0,[],false,[],false,[],false,(⟨[],[],0,false,[]⟩:Xn),false,0,[],[],[]⟩:Q1)
theorem Qbv {N} {r} (h:Q4y N=some r):pU 18 [] (.agg (Q1.cells r)):=by
 refine Q0 k18 ?_;unfold Q4y at h;obtain rfl:=Qm h;exact (Ap (Qo (f2_ (f1_ (.cons (.nil _) (f2_ (.cons (.nil _) (.cons (.nil _) (.cons (.nil _) .nil)))))))))
def Q10 (N:Nat):Option Bool:=
 (Q4y N).bind fun v1=>
 (Vh N 4 v1).bind fun v3=>
 cond (Q3 .eql v3.2 0)
 (cond (Q3 .eql v3.1.Proto 1)
 (cond (Q3 .eql v3.1.Kind 1)
 (cond (Q0p .eql v3.1.Topic [97,47,98])
 (some (Q0p .eql v3.1.Payload [104,105]))
 (some false))
 (some false))
 (some false))
 (some false)
theorem Q8n {N} {r} (h:Q10 N=some r):pU 5 [] (.bool r):=by
 refine Q0 k5 ?_;unfold Q10 at h;rw [cX,cY] at h;refine cP h Qbv p0 fun v1 h=>?_;refine cP h Q0h p2 fun v3 h=>?_;refine iR h fun h=>?_;refine iR h fun h=>?_;refine iR h fun h=>?_;exact iB h
def Yg (N:Nat) (l:List Qb):Nat→Int→Option Bool
 | 0,_=>none
 | n+1,i17=>
  cond (Q3 .lss i17 ((Q6 Qb.cells l).length:Int))
  ((idx l i17).bind fun y19=>
  cond (Q3 .gtr (y19.Text.length:Int) 300)
  (some false)
  ((idx l i17).bind fun y22=>
  cond (Q3 .gtr (y22.Value.length:Int) 300)
  (some false)
  (Yg N l n (wrap .i64 (i17+1)))))
  (some (Q3 .leq ((Q6 Qb.cells l).length:Int) 30))
def Qx (N:Nat) (l:List Qb):Option Bool:=
 Yg N l N 0
theorem Wl {N} {l} {r} (h:Qx N l=some r):pU 19 [.slice 4 (Q6 Qb.cells l)] (.bool r):=by
 refine Q0 k19 ?_;unfold Qx at h;refine lpH (τ:=Int) (fun i17=>(.p (.slice 4 (Q6 Qb.cells l)) :: .any :: .any::iI i17::a16 (a8 (.any :: [])):List AV)) (fun n0 i17=>Yg N l n0 i17) (0) h fun n0 i17 h=>?_
 first | rw [Yg] at h | simp only [Yg] at h
 rw [cX] at h;refine iR h fun h=>?_;refine xR h fun y19 h=>?_;refine iL h fun h=>?_;refine xR h fun y22 h=>?_;refine iL h fun h=>?_;show Exists _;exact ⟨(n0,(wrap .i64 (i17+1))),h,Lf _,(fun i=>i),Yn⟩
def Zi (N:Nat) (p:Q1):Nat→Int→Option Bool
 | 0,_=>none
 | n+1,i11=>
  cond (Q3 .lss i11 ((Q6 Qg.cells p.Filters).length:Int))
  (cond (Q3 .lss i11 31)
  ((idx p.Filters i11).bind fun y14=>
  cond (Q3 .gtr (y14.Topic.length:Int) 2000)
  (some false)
  (Zi N p n (wrap .i64 (i11+1))))
  (cond (Q3 .leq (p.Topic.length:Int) 2000)
  (cond (Q3 .leq (p.Payload.length:Int) 2000)
  (cond (Q3 .leq (p.Client.length:Int) 2000)
  (cond (Q3 .leq (p.User.length:Int) 2000)
  (cond (Q3 .leq (p.Pass.length:Int) 2000)
  (cond (Q3 .leq (p.Will.Topic.length:Int) 2000)
  (cond (Q3 .leq (p.Will.Payload.length:Int) 2000)
  (cond (Q3 .leq ((Q6 (cI .i64) p.Codes).length:Int) 30)
  (cond (Q3 .leq ((Q6 Qg.cells p.Filters).length:Int) 30)
  ((Qx N p.Props).bind fun v26=>
  cond v26
  ((Qx N p.Will.Props).bind fun v29=>
  some v29)
  (some false))
  (some false))
  (some false))
  (some false))
  (some false))
  (some false))
  (some false))
  (some false))
  (some false))
  (some false)))
  (cond (Q3 .leq (p.Topic.length:Int) 2000)
  (cond (Q3 .leq (p.Payload.length:Int) 2000)
  (cond (Q3 .leq (p.Client.length:Int) 2000)
  (cond (Q3 .leq (p.User.length:Int) 2000)
  (cond (Q3 .leq (p.Pass.length:Int) 2000)
  (cond (Q3 .leq (p.Will.Topic.length:Int) 2000)
  (cond (Q3 .leq (p.Will.Payload.length:Int) 2000)
  (cond (Q3 .leq ((Q6 (cI .i64) p.Codes).length:Int) 30)
  (cond (Q3 .leq ((Q6 Qg.cells p.Filters).length:Int) 30)
  ((Qx N p.Props).bind fun v40=>
  cond v40
  ((Qx N p.Will.Props).bind fun v43=>
  some v43)
  (some false))
  (some false))
  (some false))
  (some false))
  (some false))
  (some false))
  (some false))
  (some false))
  (some false))
  (some false))
def Xz (N:Nat) (p:Q1):Option Bool:=
 Zi N p N 0
theorem Q2k {N} {p} {r} (h:Xz N p=some r):pU 6 [.agg (Q1.cells p)] (.bool r):=by
 refine Q0 k6 ?_;unfold Xz at h;refine lpH (τ:=Int) (fun i11=>(.any :: .ptr 0 0 :: .any::iI i11::a16 (a16 (a16 (a16 (a16 (a4 ([])))))):List AV)) (fun n0 i11=>Zi N p n0 i11) (0) h fun n0 i11 h=>?_
 first | rw [Zi] at h | simp only [Zi] at h
 rw [cX] at h;apply iU h<;>intro h
 ·apply iU h<;>intro h
  ·refine xR h fun y14 h=>?_;refine iL h fun h=>?_;show Exists _;exact ⟨(n0,(wrap .i64 (i11+1))),h,Lf _,(fun i=>i),Yn⟩
  refine iR h fun h=>?_;refine iR h fun h=>?_;refine iR h fun h=>?_;refine iR h fun h=>?_;refine iR h fun h=>?_;refine iR h fun h=>?_;refine iR h fun h=>?_;refine iR h fun h=>?_;refine iR h fun h=>?_;refine cP h Wl p1 fun v26 h=>?_;refine iR h fun h=>?_;refine cP h Wl p1 fun v29 h=>?_;cases h;exact (.p _)
 refine iR h fun h=>?_;refine iR h fun h=>?_;refine iR h fun h=>?_;refine iR h fun h=>?_;refine iR h fun h=>?_;refine iR h fun h=>?_;refine iR h fun h=>?_;refine iR h fun h=>?_;refine iR h fun h=>?_;refine cP h Wl p1 fun v40 h=>?_;refine iR h fun h=>?_;refine cP h Wl p1 fun v43 h=>?_;cases h;exact (.p _)
def Q2g (_N:Nat) (m:Qcw):Option Bool:=
 cond (Q3 .leq (m.Name.length:Int) 70000)
 (some (Q3 .leq (m.Data.length:Int) 70000))
 (some false)
theorem Q8d {N} {m} {r} (h:Q2g N m=some r):pU 47 [.agg (Qcw.cells m)] (.bool r):=by
 refine Q0 k47 ?_;unfold Q2g at h;rw [cX] at h;exact iB h
end
end
end Go.Av
