/- Part of FromsnNames: the law returns true; no condition. -/
import Derived.Test.YtfgpphgmjcnleaaGreatDoorLiftF0
set_option linter.all false
open Go.IntKind (wrap)
namespace Go.Av
noncomputable section
open Go.Proofs
set_option maxRecDepth 100000
set_option maxHeartbeats 4000000
attribute [local irreducible] Qv Q8 Q3g Q27 Qpn Qj3 Qgp
section
def Yr (N:Nat) (c:Q0):Nat->Option ((Unit)×Q0)
 | 0=>none
 | n+1=>
  some ((),c)
def Zs (N:Nat) (c:Q0):Option ((Unit)×Q0):=
 cond (Q6 .eql c.m.Type' 0)
 ((Xo N c).bind fun v2=>
 (Xr N v2.2).bind fun v4=>
 some ((),v4.2))
 (cond (Q6 .eql c.m.Type' 1)
 ((Vx N c).bind fun v7=>
 some ((),v7.2))
 (cond (Q6 .eql c.m.Type' 2)
 ((Xo N c).bind fun v10=>
 (Qx N v10.2).bind fun v12=>
 some ((),v12.2))
 (cond (Q6 .eql c.m.Type' 4)
 ((Z4 N c).bind fun v15=>
 (Wu N v15.2).bind fun v17=>
 (Xr N v17.2).bind fun v19=>
 (Qx N v19.2).bind fun v21=>
 some ((),v21.2))
 (cond (Q6 .eql c.m.Type' 5)
 ((Zg N c).bind fun v24=>
 some ((),v24.2))
 (cond (Q6 .eql c.m.Type' 27)
 ((Zg N c).bind fun v27=>
 some ((),v27.2))
 (cond (Q6 .eql c.m.Type' 29)
 ((Zg N c).bind fun v30=>
 some ((),v30.2))
 (cond (Q6 .eql c.m.Type' 7)
 ((Wy N c).bind fun v33=>
 some ((),v33.2))
 (cond (Q6 .eql c.m.Type' 26)
 ((Wy N c).bind fun v36=>
 some ((),v36.2))
 (cond (Q6 .eql c.m.Type' 9)
 ((Xk N c).bind fun v39=>
 some ((),v39.2))
 (cond (Q6 .eql c.m.Type' 28)
 ((Xk N c).bind fun v42=>
 some ((),v42.2))
 (cond (Q6 .eql c.m.Type' 10)
 ((Y7 N c).bind fun v45=>
 (Qr N v45.2).bind fun v47=>
 (Qx N v47.2).bind fun v49=>
 some ((),v49.2))
 (cond (Q6 .eql c.m.Type' 11)
 ((Y7 N c).bind fun v52=>
 (Qr N v52.2).bind fun v54=>
 (Zg N v54.2).bind fun v56=>
 some ((),v56.2))
 (cond (Q6 .eql c.m.Type' 13)
 ((Y7 N c).bind fun v59=>
 (Qr N v59.2).bind fun v61=>
 (Zg N v61.2).bind fun v63=>
 some ((),v63.2))
 (cond (Q6 .eql c.m.Type' 12)
 ((Z4 N c).bind fun v66=>
 (Y7 N v66.2).bind fun v68=>
 (Qr N v68.2).bind fun v70=>
 (Xk N v70.2).bind fun v72=>
 some ((),v72.2))
 (cond (Q6 .eql c.m.Type' 14)
 ((Qr N c).bind fun v75=>
 some ((),v75.2))
 (cond (Q6 .eql c.m.Type' 15)
 ((Qr N c).bind fun v78=>
 some ((),v78.2))
 (cond (Q6 .eql c.m.Type' 16)
 ((Qr N c).bind fun v81=>
 some ((),v81.2))
 (cond (Q6 .eql c.m.Type' 21)
 ((Qr N c).bind fun v84=>
 some ((),v84.2))
 (cond (Q6 .eql c.m.Type' 18)
 ((Z4 N c).bind fun v87=>
 (Qr N v87.2).bind fun v89=>
 (Wm N v89.2).bind fun v91=>
 some ((),v91.2))
 (cond (Q6 .eql c.m.Type' 20)
 ((Z4 N c).bind fun v94=>
 (Qr N v94.2).bind fun v96=>
 (Wm N v96.2).bind fun v98=>
 some ((),v98.2))
 (cond (Q6 .eql c.m.Type' 19)
 ((Z4 N c).bind fun v101=>
 (Y7 N v101.2).bind fun v103=>
 (Qr N v103.2).bind fun v105=>
 (Zg N v105.2).bind fun v107=>
 some ((),v107.2))
 (cond (Q6 .eql c.m.Type' 22)
 ((Qx N c).bind fun v110=>
 some ((),v110.2))
 (cond (Q6 .eql c.m.Type' 24)
 ((Ww N c).bind fun v113=>
 some ((),v113.2))
 (Yr N c N))))))))))))))))))))))))
theorem Yo {N} {c} {r} (h:Zs N c=some r):gU 45 (.ptr 0 0 :: []) (.cells (Xz c 1) :: .cells (Z0 (cI .u8) c.out) :: []) (.tuple []) (.cells (Xz r.2 2) :: .dead :: .cells (Z0 (cI .u8) r.2.out) :: []):=by
 refine Yv k45 (Lt rfl) ?_;unfold Zs at h;rw [cX] at h;refine Q3 k83 ?_;apply iU h<;>intro h
 ·refine Qk 4 ?_;refine dT ?_;refine cG h Ui fun v2 h=>?_;refine ⟨rho [0,1],(.cells (Xz v2.2 3) :: .dead :: .cells (.func (.func 110) [.ptr 0 0] [] :: .func (.func 111) [.ptr 0 0] [] :: []) :: .cells (Z0 (cI .u8) v2.2.out) :: []),.tuple [],gcQ,?_⟩;refine dT ?_;refine cG h Vm fun v4 h=>?_;refine ⟨rho [0,3],(.cells (Xz v4.2 4) :: .dead :: .cells (.func (.func 110) [.ptr 0 0] [] :: .func (.func 111) [.ptr 0 0] [] :: []) :: .dead :: .cells (Z0 (cI .u8) v4.2.out) :: []),.tuple [],gcQ,?_⟩;refine dF ?_;obtain rfl:=Qb h;show Exists _;exact ⟨(rho [0,1,4]),Z2⟩
 apply iU h<;>intro h
 ·refine Qk 3 ?_;refine dT ?_;refine cG h Q2q fun v7 h=>?_;refine ⟨rho [0,1],(.cells (Xz v7.2 3) :: .dead :: .cells (.func (.func 112) [.ptr 0 0] [] :: []) :: .cells (Z0 (cI .u8) v7.2.out) :: []),.tuple [],gcQ,?_⟩;refine dF ?_;obtain rfl:=Qb h;show Exists _;exact ⟨(rho [0,1,3]),Z2⟩
 apply iU h<;>intro h
 ·refine Qk 4 ?_;refine dT ?_;refine cG h Ui fun v10 h=>?_;refine ⟨rho [0,1],(.cells (Xz v10.2 3) :: .dead :: .cells (.func (.func 110) [.ptr 0 0] [] :: .func (.func 113) [.ptr 0 0] [] :: []) :: .cells (Z0 (cI .u8) v10.2.out) :: []),.tuple [],gcQ,?_⟩;refine dT ?_;refine cG h Qw fun v12 h=>?_;refine ⟨rho [0,3],(.cells (Xz v12.2 4) :: .dead :: .cells (.func (.func 110) [.ptr 0 0] [] :: .func (.func 113) [.ptr 0 0] [] :: []) :: .dead :: .cells (Z0 (cI .u8) v12.2.out) :: []),.tuple [],gcQ,?_⟩;refine dF ?_;obtain rfl:=Qb h;show Exists _;exact ⟨(rho [0,1,4]),Z2⟩
 apply iU h<;>intro h
 ·refine Qk 6 ?_;refine dT ?_;refine cG h Z7 fun v15 h=>?_;refine ⟨rho [0,1],(.cells (Xz v15.2 3) :: .dead :: .cells (.func (.func 114) [.ptr 0 0] [] :: .func (.func 115) [.ptr 0 0] [] :: .func (.func 111) [.ptr 0 0] [] :: .func (.func 113) [.ptr 0 0] [] :: []) :: .cells (Z0 (cI .u8) v15.2.out) :: []),.tuple [],gcQ,?_⟩;refine dT ?_;refine cG h Q1n fun v17 h=>?_;refine ⟨rho [0,3],(.cells (Xz v17.2 4) :: .dead :: .cells (.func (.func 114) [.ptr 0 0] [] :: .func (.func 115) [.ptr 0 0] [] :: .func (.func 111) [.ptr 0 0] [] :: .func (.func 113) [.ptr 0 0] [] :: []) :: .dead :: .cells (Z0 (cI .u8) v17.2.out) :: []),.tuple [],gcQ,?_⟩;refine dT ?_;refine cG h Vm fun v19 h=>?_;refine ⟨rho [0,4],(.cells (Xz v19.2 5) :: .dead :: .cells (.func (.func 114) [.ptr 0 0] [] :: .func (.func 115) [.ptr 0 0] [] :: .func (.func 111) [.ptr 0 0] [] :: .func (.func 113) [.ptr 0 0] [] :: []) :: .dead :: .dead :: .cells (Z0 (cI .u8) v19.2.out) :: []),.tuple [],gcQ,?_⟩;refine dT ?_;refine cG h Qw fun v21 h=>?_;refine ⟨rho [0,5],(.cells (Xz v21.2 6) :: .dead :: .cells (.func (.func 114) [.ptr 0 0] [] :: .func (.func 115) [.ptr 0 0] [] :: .func (.func 111) [.ptr 0 0] [] :: .func (.func 113) [.ptr 0 0] [] :: []) :: .dead :: .dead :: .dead :: .cells (Z0 (cI .u8) v21.2.out) :: []),.tuple [],gcQ,?_⟩;refine dF ?_;obtain rfl:=Qb h;show Exists _;exact ⟨(rho [0,1,6]),Z2⟩
 refine ifO h (fun hc23 h=>?_) (fun hc23 h=>?_)
 ·refine ifT hc23 ?_;refine Qk 3 ?_;refine dT ?_;refine cG h Zl fun v24 h=>?_;refine ⟨rho [0,1],(.cells (Xz v24.2 3) :: .dead :: .cells (.func (.func 116) [.ptr 0 0] [] :: []) :: .cells (Z0 (cI .u8) v24.2.out) :: []),.tuple [],gcQ,?_⟩;refine dF ?_;obtain rfl:=Qb h;show Exists _;exact ⟨(rho [0,1,3]),Z2⟩
 refine ifO h (fun hc26 h=>?_) (fun hc26 h=>?_)
 ·refine ifT hc26 ?_;refine Qk 3 ?_;refine dT ?_;refine cG h Zl fun v27 h=>?_;refine ⟨rho [0,1],(.cells (Xz v27.2 3) :: .dead :: .cells (.func (.func 116) [.ptr 0 0] [] :: []) :: .cells (Z0 (cI .u8) v27.2.out) :: []),.tuple [],gcQ,?_⟩;refine dF ?_;obtain rfl:=Qb h;show Exists _;exact ⟨(rho [0,1,3]),Z2⟩
 apply iU h<;>intro h
 ·refine Qk 3 ?_;refine dT ?_;refine cG h Zl fun v30 h=>?_;refine ⟨rho [0,1],(.cells (Xz v30.2 3) :: .dead :: .cells (.func (.func 116) [.ptr 0 0] [] :: []) :: .cells (Z0 (cI .u8) v30.2.out) :: []),.tuple [],gcQ,?_⟩;refine dF ?_;obtain rfl:=Qb h;show Exists _;exact ⟨(rho [0,1,3]),Z2⟩
 refine ifO h (fun hc32 h=>?_) (fun hc32 h=>?_)
 ·refine ifT hc32 ?_;refine Qk 3 ?_;refine dT ?_;refine cG h Gc fun v33 h=>?_;refine ⟨rho [0,1],(.cells (Xz v33.2 3) :: .dead :: .cells (.func (.func 117) [.ptr 0 0] [] :: []) :: .cells (Z0 (cI .u8) v33.2.out) :: []),.tuple [],gcQ,?_⟩;refine dF ?_;obtain rfl:=Qb h;show Exists _;exact ⟨(rho [0,1,3]),Z2⟩
 apply iU h<;>intro h
 ·refine Qk 3 ?_;refine dT ?_;refine cG h Gc fun v36 h=>?_;refine ⟨rho [0,1],(.cells (Xz v36.2 3) :: .dead :: .cells (.func (.func 117) [.ptr 0 0] [] :: []) :: .cells (Z0 (cI .u8) v36.2.out) :: []),.tuple [],gcQ,?_⟩;refine dF ?_;obtain rfl:=Qb h;show Exists _;exact ⟨(rho [0,1,3]),Z2⟩
 refine ifO h (fun hc38 h=>?_) (fun hc38 h=>?_)
 ·refine ifT hc38 ?_;refine Qk 3 ?_;refine dT ?_;refine cG h Vj fun v39 h=>?_;refine ⟨rho [0,1],(.cells (Xz v39.2 3) :: .dead :: .cells (.func (.func 118) [.ptr 0 0] [] :: []) :: .cells (Z0 (cI .u8) v39.2.out) :: []),.tuple [],gcQ,?_⟩;refine dF ?_;obtain rfl:=Qb h;show Exists _;exact ⟨(rho [0,1,3]),Z2⟩
 apply iU h<;>intro h
 ·refine Qk 3 ?_;refine dT ?_;refine cG h Vj fun v42 h=>?_;refine ⟨rho [0,1],(.cells (Xz v42.2 3) :: .dead :: .cells (.func (.func 118) [.ptr 0 0] [] :: []) :: .cells (Z0 (cI .u8) v42.2.out) :: []),.tuple [],gcQ,?_⟩;refine dF ?_;obtain rfl:=Qb h;show Exists _;exact ⟨(rho [0,1,3]),Z2⟩
 apply iU h<;>intro h
 ·refine Qk 5 ?_;refine dT ?_;refine cG h Yh fun v45 h=>?_;refine ⟨rho [0,1],(.cells (Xz v45.2 3) :: .dead :: .cells (.func (.func 119) [.ptr 0 0] [] :: .func (.func 120) [.ptr 0 0] [] :: .func (.func 113) [.ptr 0 0] [] :: []) :: .cells (Z0 (cI .u8) v45.2.out) :: []),.tuple [],gcQ,?_⟩;refine dT ?_;refine cG h Qq fun v47 h=>?_;refine ⟨rho [0,3],(.cells (Xz v47.2 4) :: .dead :: .cells (.func (.func 119) [.ptr 0 0] [] :: .func (.func 120) [.ptr 0 0] [] :: .func (.func 113) [.ptr 0 0] [] :: []) :: .dead :: .cells (Z0 (cI .u8) v47.2.out) :: []),.tuple [],gcQ,?_⟩;refine dT ?_;refine cG h Qw fun v49 h=>?_;refine ⟨rho [0,4],(.cells (Xz v49.2 5) :: .dead :: .cells (.func (.func 119) [.ptr 0 0] [] :: .func (.func 120) [.ptr 0 0] [] :: .func (.func 113) [.ptr 0 0] [] :: []) :: .dead :: .dead :: .cells (Z0 (cI .u8) v49.2.out) :: []),.tuple [],gcQ,?_⟩;refine dF ?_;obtain rfl:=Qb h;show Exists _;exact ⟨(rho [0,1,5]),Z2⟩
 refine ifO h (fun hc51 h=>?_) (fun hc51 h=>?_)
 ·refine ifT hc51 ?_;refine Qk 5 ?_;refine dT ?_;refine cG h Yh fun v52 h=>?_;refine ⟨rho [0,1],(.cells (Xz v52.2 3) :: .dead :: .cells (.func (.func 119) [.ptr 0 0] [] :: .func (.func 120) [.ptr 0 0] [] :: .func (.func 116) [.ptr 0 0] [] :: []) :: .cells (Z0 (cI .u8) v52.2.out) :: []),.tuple [],gcQ,?_⟩;refine dT ?_;refine cG h Qq fun v54 h=>?_;refine ⟨rho [0,3],(.cells (Xz v54.2 4) :: .dead :: .cells (.func (.func 119) [.ptr 0 0] [] :: .func (.func 120) [.ptr 0 0] [] :: .func (.func 116) [.ptr 0 0] [] :: []) :: .dead :: .cells (Z0 (cI .u8) v54.2.out) :: []),.tuple [],gcQ,?_⟩;refine dT ?_;refine cG h Zl fun v56 h=>?_;refine ⟨rho [0,4],(.cells (Xz v56.2 5) :: .dead :: .cells (.func (.func 119) [.ptr 0 0] [] :: .func (.func 120) [.ptr 0 0] [] :: .func (.func 116) [.ptr 0 0] [] :: []) :: .dead :: .dead :: .cells (Z0 (cI .u8) v56.2.out) :: []),.tuple [],gcQ,?_⟩;refine dF ?_;obtain rfl:=Qb h;show Exists _;exact ⟨(rho [0,1,5]),Z2⟩
 apply iU h<;>intro h
 ·refine Qk 5 ?_;refine dT ?_;refine cG h Yh fun v59 h=>?_;refine ⟨rho [0,1],(.cells (Xz v59.2 3) :: .dead :: .cells (.func (.func 119) [.ptr 0 0] [] :: .func (.func 120) [.ptr 0 0] [] :: .func (.func 116) [.ptr 0 0] [] :: []) :: .cells (Z0 (cI .u8) v59.2.out) :: []),.tuple [],gcQ,?_⟩;refine dT ?_;refine cG h Qq fun v61 h=>?_;refine ⟨rho [0,3],(.cells (Xz v61.2 4) :: .dead :: .cells (.func (.func 119) [.ptr 0 0] [] :: .func (.func 120) [.ptr 0 0] [] :: .func (.func 116) [.ptr 0 0] [] :: []) :: .dead :: .cells (Z0 (cI .u8) v61.2.out) :: []),.tuple [],gcQ,?_⟩;refine dT ?_;refine cG h Zl fun v63 h=>?_;refine ⟨rho [0,4],(.cells (Xz v63.2 5) :: .dead :: .cells (.func (.func 119) [.ptr 0 0] [] :: .func (.func 120) [.ptr 0 0] [] :: .func (.func 116) [.ptr 0 0] [] :: []) :: .dead :: .dead :: .cells (Z0 (cI .u8) v63.2.out) :: []),.tuple [],gcQ,?_⟩;refine dF ?_;obtain rfl:=Qb h;show Exists _;exact ⟨(rho [0,1,5]),Z2⟩
 apply iU h<;>intro h
 ·refine Qk 6 ?_;refine dT ?_;refine cG h Z7 fun v66 h=>?_;refine ⟨rho [0,1],(.cells (Xz v66.2 3) :: .dead :: .cells (.func (.func 114) [.ptr 0 0] [] :: .func (.func 119) [.ptr 0 0] [] :: .func (.func 120) [.ptr 0 0] [] :: .func (.func 118) [.ptr 0 0] [] :: []) :: .cells (Z0 (cI .u8) v66.2.out) :: []),.tuple [],gcQ,?_⟩;refine dT ?_;refine cG h Yh fun v68 h=>?_;refine ⟨rho [0,3],(.cells (Xz v68.2 4) :: .dead :: .cells (.func (.func 114) [.ptr 0 0] [] :: .func (.func 119) [.ptr 0 0] [] :: .func (.func 120) [.ptr 0 0] [] :: .func (.func 118) [.ptr 0 0] [] :: []) :: .dead :: .cells (Z0 (cI .u8) v68.2.out) :: []),.tuple [],gcQ,?_⟩;refine dT ?_;refine cG h Qq fun v70 h=>?_;refine ⟨rho [0,4],(.cells (Xz v70.2 5) :: .dead :: .cells (.func (.func 114) [.ptr 0 0] [] :: .func (.func 119) [.ptr 0 0] [] :: .func (.func 120) [.ptr 0 0] [] :: .func (.func 118) [.ptr 0 0] [] :: []) :: .dead :: .dead :: .cells (Z0 (cI .u8) v70.2.out) :: []),.tuple [],gcQ,?_⟩;refine dT ?_;refine cG h Vj fun v72 h=>?_;refine ⟨rho [0,5],(.cells (Xz v72.2 6) :: .dead :: .cells (.func (.func 114) [.ptr 0 0] [] :: .func (.func 119) [.ptr 0 0] [] :: .func (.func 120) [.ptr 0 0] [] :: .func (.func 118) [.ptr 0 0] [] :: []) :: .dead :: .dead :: .dead :: .cells (Z0 (cI .u8) v72.2.out) :: []),.tuple [],gcQ,?_⟩;refine dF ?_;obtain rfl:=Qb h;show Exists _;exact ⟨(rho [0,1,6]),Z2⟩
 refine ifO h (fun hc74 h=>?_) (fun hc74 h=>?_)
 ·refine ifT hc74 ?_;refine Qk 3 ?_;refine dT ?_;refine cG h Qq fun v75 h=>?_;refine ⟨rho [0,1],(.cells (Xz v75.2 3) :: .dead :: .cells (.func (.func 120) [.ptr 0 0] [] :: []) :: .cells (Z0 (cI .u8) v75.2.out) :: []),.tuple [],gcQ,?_⟩;refine dF ?_;obtain rfl:=Qb h;show Exists _;exact ⟨(rho [0,1,3]),Z2⟩
 refine ifO h (fun hc77 h=>?_) (fun hc77 h=>?_)
 ·refine ifT hc77 ?_;refine Qk 3 ?_;refine dT ?_;refine cG h Qq fun v78 h=>?_;refine ⟨rho [0,1],(.cells (Xz v78.2 3) :: .dead :: .cells (.func (.func 120) [.ptr 0 0] [] :: []) :: .cells (Z0 (cI .u8) v78.2.out) :: []),.tuple [],gcQ,?_⟩;refine dF ?_;obtain rfl:=Qb h;show Exists _;exact ⟨(rho [0,1,3]),Z2⟩
 refine ifO h (fun hc80 h=>?_) (fun hc80 h=>?_)
 ·refine ifT hc80 ?_;refine Qk 3 ?_;refine dT ?_;refine cG h Qq fun v81 h=>?_;refine ⟨rho [0,1],(.cells (Xz v81.2 3) :: .dead :: .cells (.func (.func 120) [.ptr 0 0] [] :: []) :: .cells (Z0 (cI .u8) v81.2.out) :: []),.tuple [],gcQ,?_⟩;refine dF ?_;obtain rfl:=Qb h;show Exists _;exact ⟨(rho [0,1,3]),Z2⟩
 apply iU h<;>intro h
 ·refine Qk 3 ?_;refine dT ?_;refine cG h Qq fun v84 h=>?_;refine ⟨rho [0,1],(.cells (Xz v84.2 3) :: .dead :: .cells (.func (.func 120) [.ptr 0 0] [] :: []) :: .cells (Z0 (cI .u8) v84.2.out) :: []),.tuple [],gcQ,?_⟩;refine dF ?_;obtain rfl:=Qb h;show Exists _;exact ⟨(rho [0,1,3]),Z2⟩
 refine ifO h (fun hc86 h=>?_) (fun hc86 h=>?_)
 ·refine ifT hc86 ?_;refine Qk 5 ?_;refine dT ?_;refine cG h Z7 fun v87 h=>?_;refine ⟨rho [0,1],(.cells (Xz v87.2 3) :: .dead :: .cells (.func (.func 114) [.ptr 0 0] [] :: .func (.func 120) [.ptr 0 0] [] :: .func (.func 121) [.ptr 0 0] [] :: []) :: .cells (Z0 (cI .u8) v87.2.out) :: []),.tuple [],gcQ,?_⟩;refine dT ?_;refine cG h Qq fun v89 h=>?_;refine ⟨rho [0,3],(.cells (Xz v89.2 4) :: .dead :: .cells (.func (.func 114) [.ptr 0 0] [] :: .func (.func 120) [.ptr 0 0] [] :: .func (.func 121) [.ptr 0 0] [] :: []) :: .dead :: .cells (Z0 (cI .u8) v89.2.out) :: []),.tuple [],gcQ,?_⟩;refine dT ?_;refine cG h Je fun v91 h=>?_;refine ⟨rho [0,4],(.cells (Xz v91.2 5) :: .dead :: .cells (.func (.func 114) [.ptr 0 0] [] :: .func (.func 120) [.ptr 0 0] [] :: .func (.func 121) [.ptr 0 0] [] :: []) :: .dead :: .dead :: .cells (Z0 (cI .u8) v91.2.out) :: []),.tuple [],gcQ,?_⟩;refine dF ?_;obtain rfl:=Qb h;show Exists _;exact ⟨(rho [0,1,5]),Z2⟩
 apply iU h<;>intro h
 ·refine Qk 5 ?_;refine dT ?_;refine cG h Z7 fun v94 h=>?_;refine ⟨rho [0,1],(.cells (Xz v94.2 3) :: .dead :: .cells (.func (.func 114) [.ptr 0 0] [] :: .func (.func 120) [.ptr 0 0] [] :: .func (.func 121) [.ptr 0 0] [] :: []) :: .cells (Z0 (cI .u8) v94.2.out) :: []),.tuple [],gcQ,?_⟩;refine dT ?_;refine cG h Qq fun v96 h=>?_;refine ⟨rho [0,3],(.cells (Xz v96.2 4) :: .dead :: .cells (.func (.func 114) [.ptr 0 0] [] :: .func (.func 120) [.ptr 0 0] [] :: .func (.func 121) [.ptr 0 0] [] :: []) :: .dead :: .cells (Z0 (cI .u8) v96.2.out) :: []),.tuple [],gcQ,?_⟩;refine dT ?_;refine cG h Je fun v98 h=>?_;refine ⟨rho [0,4],(.cells (Xz v98.2 5) :: .dead :: .cells (.func (.func 114) [.ptr 0 0] [] :: .func (.func 120) [.ptr 0 0] [] :: .func (.func 121) [.ptr 0 0] [] :: []) :: .dead :: .dead :: .cells (Z0 (cI .u8) v98.2.out) :: []),.tuple [],gcQ,?_⟩;refine dF ?_;obtain rfl:=Qb h;show Exists _;exact ⟨(rho [0,1,5]),Z2⟩
 apply iU h<;>intro h
 ·refine Qk 6 ?_;refine dT ?_;refine cG h Z7 fun v101 h=>?_;refine ⟨rho [0,1],(.cells (Xz v101.2 3) :: .dead :: .cells (.func (.func 114) [.ptr 0 0] [] :: .func (.func 119) [.ptr 0 0] [] :: .func (.func 120) [.ptr 0 0] [] :: .func (.func 116) [.ptr 0 0] [] :: []) :: .cells (Z0 (cI .u8) v101.2.out) :: []),.tuple [],gcQ,?_⟩;refine dT ?_;refine cG h Yh fun v103 h=>?_;refine ⟨rho [0,3],(.cells (Xz v103.2 4) :: .dead :: .cells (.func (.func 114) [.ptr 0 0] [] :: .func (.func 119) [.ptr 0 0] [] :: .func (.func 120) [.ptr 0 0] [] :: .func (.func 116) [.ptr 0 0] [] :: []) :: .dead :: .cells (Z0 (cI .u8) v103.2.out) :: []),.tuple [],gcQ,?_⟩;refine dT ?_;refine cG h Qq fun v105 h=>?_;refine ⟨rho [0,4],(.cells (Xz v105.2 5) :: .dead :: .cells (.func (.func 114) [.ptr 0 0] [] :: .func (.func 119) [.ptr 0 0] [] :: .func (.func 120) [.ptr 0 0] [] :: .func (.func 116) [.ptr 0 0] [] :: []) :: .dead :: .dead :: .cells (Z0 (cI .u8) v105.2.out) :: []),.tuple [],gcQ,?_⟩;refine dT ?_;refine cG h Zl fun v107 h=>?_;refine ⟨rho [0,5],(.cells (Xz v107.2 6) :: .dead :: .cells (.func (.func 114) [.ptr 0 0] [] :: .func (.func 119) [.ptr 0 0] [] :: .func (.func 120) [.ptr 0 0] [] :: .func (.func 116) [.ptr 0 0] [] :: []) :: .dead :: .dead :: .dead :: .cells (Z0 (cI .u8) v107.2.out) :: []),.tuple [],gcQ,?_⟩;refine dF ?_;obtain rfl:=Qb h;show Exists _;exact ⟨(rho [0,1,6]),Z2⟩
 apply iU h<;>intro h
 ·refine Qk 3 ?_;refine dT ?_;refine cG h Qw fun v110 h=>?_;refine ⟨rho [0,1],(.cells (Xz v110.2 3) :: .dead :: .cells (.func (.func 113) [.ptr 0 0] [] :: []) :: .cells (Z0 (cI .u8) v110.2.out) :: []),.tuple [],gcQ,?_⟩;refine dF ?_;obtain rfl:=Qb h;show Exists _;exact ⟨(rho [0,1,3]),Z2⟩
 apply iU h<;>intro h
 ·refine Qk 3 ?_;refine dT ?_;refine cG h Q1k fun v113 h=>?_;refine ⟨rho [0,1],(.cells (Xz v113.2 3) :: .dead :: .cells (.func (.func 122) [.ptr 0 0] [] :: []) :: .cells (Z0 (cI .u8) v113.2.out) :: []),.tuple [],gcQ,?_⟩;refine dF ?_;obtain rfl:=Qb h;show Exists _;exact ⟨(rho [0,1,3]),Z2⟩
 refine lpH (τ:=Unit) (fun _=>(a4 (.any :: .p .nilSlice::iI 0::iI 0::a4 (a2 ([]))):List AV)) (fun n0 ⟨⟩=>Yr N c n0) () h fun n0 ⟨⟩ h=>?_
 first | rw [Yr] at h | simp only [Yr] at h
 refine dF ?_;obtain rfl:=Qb h;show Exists _;exact ⟨(rho [0,1,1]),Z2⟩
def J1 (_N:Nat) (m:X1):Option Bool:=
 cond (Q6 .eql m.Type' 10)
 (some (Q6 .neq m.MsgID 0))
 (cond (Q6 .eql m.Type' 14)
 (some (Q6 .neq m.MsgID 0))
 (cond (Q6 .eql m.Type' 15)
 (some (Q6 .neq m.MsgID 0))
 (cond (Q6 .eql m.Type' 16)
 (some (Q6 .neq m.MsgID 0))
 (cond (Q6 .eql m.Type' 21)
 (some (Q6 .neq m.MsgID 0))
 (cond (Q6 .eql m.Type' 18)
 (some (Q6 .neq m.MsgID 0))
 (cond (Q6 .eql m.Type' 20)
 (some (Q6 .neq m.MsgID 0))
 (cond (Q6 .eql m.Type' 12)
 (some ((Q6 .neq m.MsgID 0) == (Q6 .gtr m.Flags.QoS 0)))
 (some true))))))))
theorem Gr {N} {m} {r} (h:J1 N m=some r):pU 46 [.agg (X1.cells m)] (.bool r):=by
 refine Q2 k46 ?_;unfold J1 at h;rw [cX] at h;refine ifO h (fun hc1 h=>?_) (fun hc1 h=>?_)
 ·refine ifT hc1 ?_;cases h;exact (.p _)
 refine ifO h (fun hc2 h=>?_) (fun hc2 h=>?_)
 ·refine ifT hc2 ?_;cases h;exact (.p _)
 refine ifO h (fun hc3 h=>?_) (fun hc3 h=>?_)
 ·refine ifT hc3 ?_;cases h;exact (.p _)
 refine ifO h (fun hc4 h=>?_) (fun hc4 h=>?_)
 ·refine ifT hc4 ?_;cases h;exact (.p _)
 refine ifO h (fun hc5 h=>?_) (fun hc5 h=>?_)
 ·refine ifT hc5 ?_;cases h;exact (.p _)
 refine ifO h (fun hc6 h=>?_) (fun hc6 h=>?_)
 ·refine ifT hc6 ?_;cases h;exact (.p _)
 refine iL h fun h=>?_;exact iB h
def Vc (N:Nat) (id:Int):Option ((List UInt8)×Bool):=
 cond (Q6 .lss id 0)
 (some ([],false))
 (cond (Q6 .gtr id 65535)
 (some ([],false))
 ((Qs N (wrap .u64 id) 2).bind fun v3=>
 (Y6 N v3).bind fun v5=>
 cond (!v5)
 (some ([],false))
 (some (v3,true))))
theorem Vg {N} {id} {r} (h:Vc N id=some r):pU 84 [.int .i64 id] (.tuple [.str r.1,.bool r.2]):=by
 refine Q2 k84 ?_;unfold Vc at h;rw [cX] at h;refine iL2 h fun h=>?_;refine iL2 h fun h=>?_;refine cP h Qm p2 fun v3 h=>?_;refine cP h Zi p1 fun v5 h=>?_;exact iB2 h
def V8 (N:Nat) (m:X1):Option Int:=
 cond (Q6 .eql m.Type' 18)
 (cond (Q6 .eql m.Flags.Type' 0)
 (some 0)
 (cond (Q6 .eql m.Flags.Type' 2)
 ((Vc N m.TopicID).bind fun v4=>
 cond (!v4.2)
 (some 10)
 (some 0))
 (cond (Q6 .lss m.TopicID 1)
 (some 2)
 (cond (Q6 .gtr m.TopicID 65534)
 (some 2)
 (some 0)))))
 (cond (Q6 .eql m.Type' 20)
 (cond (Q6 .eql m.Flags.Type' 0)
 (some 0)
 (cond (Q6 .eql m.Flags.Type' 2)
 ((Vc N m.TopicID).bind fun v12=>
 cond (!v12.2)
 (some 10)
 (some 0))
 (cond (Q6 .lss m.TopicID 1)
 (some 2)
 (cond (Q6 .gtr m.TopicID 65534)
 (some 2)
 (some 0)))))
 (cond (Q6 .eql m.Type' 12)
 (cond (Q6 .eql m.Flags.Type' 2)
 ((Vc N m.TopicID).bind fun v19=>
 cond (!v19.2)
 (some 10)
 (some 0))
 (cond (Q6 .lss m.TopicID 1)
 (some 2)
 (cond (Q6 .gtr m.TopicID 65534)
 (some 2)
 (some 0))))
 (cond (Q6 .eql m.Type' 10)
 (cond (Q6 .eql m.Flags.Type' 2)
 ((Vc N m.TopicID).bind fun v26=>
 cond (!v26.2)
 (some 10)
 (some 0))
 (cond (Q6 .lss m.TopicID 1)
 (some 2)
 (cond (Q6 .gtr m.TopicID 65534)
 (some 2)
 (some 0))))
 (some 0))))
theorem J9 {N} {m} {r} (h:V8 N m=some r):pU 47 [.agg (X1.cells m)] (.int .i64 r):=by
 refine Q2 k47 ?_;unfold V8 at h;rw [cX] at h;refine ifO h (fun hc1 h=>?_) (fun hc1 h=>?_)
 ·refine ifT hc1 ?_;refine iL h fun h=>?_;apply iU h<;>intro h
  ·refine cP h Vg p1 fun v4 h=>?_;exact iB h
  refine iL h fun h=>?_;exact iB h
 apply iU h<;>intro h
 ·refine iL h fun h=>?_;apply iU h<;>intro h
  ·refine cP h Vg p1 fun v12 h=>?_;exact iB h
  refine iL h fun h=>?_;exact iB h
 refine ifO h (fun hc17 h=>?_) (fun hc17 h=>?_)
 ·refine ifT hc17 ?_;apply iU h<;>intro h
  ·refine cP h Vg p1 fun v19 h=>?_;exact iB h
  refine iL h fun h=>?_;exact iB h
 refine iR h fun h=>?_;apply iU h<;>intro h
 ·refine cP h Vg p1 fun v26 h=>?_;exact iB h
 refine iL h fun h=>?_;exact iB h
def Q19 (_N:Nat) (s_0:List UInt8):Option Bool:=
 cond (Q31 .eql s_0 [43])
 (some true)
 (some (Q31 .eql s_0 [35]))
theorem Q3t {N} {s_0} {r} (h:Q19 N s_0=some r):pU 163 [.str s_0] (.bool r):=by
 refine Q2 Qxa ?_;unfold Q19 at h;rw [cY] at h;exact iB h
def Zr (N:Nat) (l:List (List UInt8)):Nat->Int->Option Bool
 | 0,_=>none
 | n+1,s36=>
  cond (Q6 .lss s36 ((Qg cS l).length:Int))
  ((idx l s36).bind fun y38=>
  cond (Q31 .eql y38 [35])
  (cond (!(Q6 .eql (wrap .i64 (s36+1)) ((Qg cS l).length:Int)))
  (some false)
  ((Q19 N y38).bind fun v42=>
  cond (!v42)
  ((Zt N y38).bind fun v45=>
  cond v45
  (some false)
  (Zr N l n (wrap .i64 (s36+1))))
  (Zr N l n (wrap .i64 (s36+1)))))
  ((Q19 N y38).bind fun v48=>
  cond (!v48)
  ((Zt N y38).bind fun v51=>
  cond v51
  (some false)
  (Zr N l n (wrap .i64 (s36+1))))
  (Zr N l n (wrap .i64 (s36+1)))))
  (some true)
def Q1d (N:Nat) (l:List (List UInt8)):Option Bool:=
 Zr N l N 0
theorem Q7d {N} {l} {r} (h:Q1d N l=some r):pU 124 [.slice 1 (Qg cS l)] (.bool r):=by
 refine Q2 Z0f ?_;unfold Q1d at h;refine lpH (τ:=Int) (fun s36=>(.p (.slice 1 (Qg cS l))::a4 (.any :: .p (.slice 1 (Qg cS l))::iI ((Qg cS l).length:Int)::iI s36::a16 (a8 (.any :: []))):List AV)) (fun n0 s36=>Zr N l n0 s36) (0) h fun n0 s36 h=>?_
 first | rw [Zr] at h | simp only [Zr] at h
 rw [cX,cY] at h;refine iR h fun h=>?_;refine xR h fun y38 h=>?_;apply iU h<;>intro h
 ·refine iL h fun h=>?_;refine cP h Q3t p1 fun v42 h=>?_;apply iU h<;>intro h
  ·refine cP h X6 p2 fun v45 h=>?_;refine iL h fun h=>?_;show Exists _;exact ⟨(n0,(wrap .i64 (s36+1))),h,Ll _,(fun i=>i),Z2⟩
  show Exists _;exact ⟨(n0,(wrap .i64 (s36+1))),h,Ll _,(fun i=>i),Z2⟩
 refine cP h Q3t p1 fun v48 h=>?_;apply iU h<;>intro h
 ·refine cP h X6 p2 fun v51 h=>?_;refine iL h fun h=>?_;show Exists _;exact ⟨(n0,(wrap .i64 (s36+1))),h,Ll _,(fun i=>i),Z2⟩
 show Exists _;exact ⟨(n0,(wrap .i64 (s36+1))),h,Ll _,(fun i=>i),Z2⟩
def Qu (N:Nat) (s_0:List UInt8):Nat->Int->Nat->Option Int
 | 0,_,_=>none
 | n+1,n5,pos6=>
  cond (Nat.blt pos6 s_0.length)
  (Qu N s_0 n (wrap .i64 (n5+1)) (pos6+(Q8q s_0 pos6).2))
  (some n5)
def Y8 (N:Nat) (s_0:List UInt8):Option Int:=
 Qu N s_0 N 0 0
theorem Ue {N} {s_0} {r} (h:Y8 N s_0=some r):pU 281 [.str s_0] (.int .i64 r):=by
 refine Q2 Qys ?_;unfold Y8 at h;refine lpA (τ:=Int×Nat) (fun ⟨n5,_⟩=>(.any :: .any::iI n5 :: .any :: .ptr 0 0::a4 (.any :: []):List AV)) (fun ⟨_,pos6⟩=>(.strIter s_0 pos6 :: []:List AObj)) (fun n0 ⟨n5,pos6⟩=>Qu N s_0 n0 n5 pos6) (0,0) h fun n0 ⟨n5,pos6⟩ h=>?_
 first | rw [Qu] at h | simp only [Qu] at h
 refine iR h fun h=>?_;show Exists _;exact ⟨(n0,(wrap .i64 (n5+1)),(pos6+(Q8q s_0 pos6).2)),h,Ll _,(fun i=>i),Z2⟩
def Z1 (_N:Nat) (s_0:List UInt8):Option (Int×Int):=
 cond (Q6 .lss (s_0.length:Int) 1)
 (some (65533,0))
 ((idx s_0 0).bind fun b2=>
 (idx gtab0 (b2.toNat:Int)).bind fun y4=>
 cond (Q6 .geq y4 240)
 ((idx s_0 0).bind fun b7=>
 some ((orI .i32 (V9 .i32 (wrap .i32 (b7.toNat:Int)) (Qa7 .i32 (Q37 .i32 (wrap .i32 y4) 31) 31)) (Q0w .i32 65533 (Qa7 .i32 (Q37 .i32 (wrap .i32 y4) 31) 31))),1))
 ((idx gtab1 (Qa7 .u8 y4 4)).bind fun y9=>
 cond (Q6 .lss (s_0.length:Int) (wrap .i64 (Q0w .u8 y4 7)))
 (some (65533,1))
 ((idx s_0 1).bind fun b12=>
 cond (Q6 .lss (b12.toNat:Int) y9.1)
 (some (65533,1))
 (cond (Q6 .lss y9.2 (b12.toNat:Int))
 (some (65533,1))
 (cond (Q6 .leq (wrap .i64 (Q0w .u8 y4 7)) 2)
 (some ((orI .i32 (Q37 .i32 (wrap .i32 (Q0w .u8 (b2.toNat:Int) 31)) 6) (wrap .i32 (Q0w .u8 (b12.toNat:Int) 63))),2))
 ((idx s_0 2).bind fun b17=>
 cond (Q6 .lss (b17.toNat:Int) 128)
 (some (65533,1))
 (cond (Q6 .lss 191 (b17.toNat:Int))
 (some (65533,1))
 (cond (Q6 .leq (wrap .i64 (Q0w .u8 y4 7)) 3)
 (some ((orI .i32 (orI .i32 (Q37 .i32 (wrap .i32 (Q0w .u8 (b2.toNat:Int) 15)) 12) (Q37 .i32 (wrap .i32 (Q0w .u8 (b12.toNat:Int) 63)) 6)) (wrap .i32 (Q0w .u8 (b17.toNat:Int) 63))),3))
 ((idx s_0 3).bind fun b22=>
 cond (Q6 .lss (b22.toNat:Int) 128)
 (some (65533,1))
 (cond (Q6 .lss 191 (b22.toNat:Int))
 (some (65533,1))
 (some ((orI .i32 (orI .i32 (orI .i32 (Q37 .i32 (wrap .i32 (Q0w .u8 (b2.toNat:Int) 7)) 18) (Q37 .i32 (wrap .i32 (Q0w .u8 (b12.toNat:Int) 63)) 12)) (Q37 .i32 (wrap .i32 (Q0w .u8 (b17.toNat:Int) 63)) 6)) (wrap .i32 (Q0w .u8 (b22.toNat:Int) 63))),4))))))))))))
theorem Yj {N} {s_0} {r} (h:Z1 N s_0=some r):pU 319 [.str s_0] (.tuple [.int .i32 r.1,.int .i64 r.2]):=by
 refine Q2 Z4a ?_;unfold Z1 at h;rw [cX] at h;refine iL2 h fun h=>?_;refine xB h fun b2 h=>?_;obtain ⟨y4,hy5,h⟩:=Vd h;refine Uo (Vy hy5 Qkw) ?_
 refine Qkz (c:=(cI .u8)) (e:=1) (fun _=>rfl) Qo8 hy5 (off:=0) (by decide) (by first | omega | (simp only [Q0w,orI,Qfs,V9,Q37,Qa7];omega)) ?_
 apply iU h<;>intro h
 ·refine xB h fun b7 h=>?_;obtain rfl:=Qb h;exact u2
 obtain ⟨y9,hy10,h⟩:=Vd h;refine Uo (Vy hy10 Ql3) ?_
 refine Qkz (c:=cUU) (e:=2) (fun _=>rfl) Qnu hy10 (off:=0) (by decide) (by first | omega | (simp only [Q0w,orI,Qfs,V9,Q37,Qa7];omega)) ?_
 refine iL2 h fun h=>?_;refine xB h fun b12 h=>?_;refine iL2 h fun h=>?_;refine iL2 h fun h=>?_;refine iL2 h fun h=>?_;refine xB h fun b17 h=>?_;refine iL2 h fun h=>?_;refine iL2 h fun h=>?_;refine iL2 h fun h=>?_;refine xB h fun b22 h=>?_;refine iL2 h fun h=>?_;exact iB2 h
def Y0 (N:Nat) (s_0:List UInt8):Option (Int×Int):=
 cond (Q31 .neq s_0 [])
 ((idx s_0 0).bind fun b2=>
 cond (Q6 .lss (b2.toNat:Int) 128)
 ((idx s_0 0).bind fun b5=>
 some ((wrap .i32 (b5.toNat:Int)),1))
 ((Z1 N s_0).bind fun v7=>
 some (v7.1,v7.2)))
 ((Z1 N s_0).bind fun v9=>
 some (v9.1,v9.2))
theorem U0 {N} {s_0} {r} (h:Y0 N s_0=some r):pU 282 [.str s_0] (.tuple [.int .i32 r.1,.int .i64 r.2]):=by
 refine Q2 Z1e ?_;unfold Y0 at h;rw [cX,cY] at h;apply iU h<;>intro h
 ·refine xB h fun b2 h=>?_;apply iU h<;>intro h
  ·refine xB h fun b5 h=>?_;obtain rfl:=Qb h;exact u2
  refine cP h Yj p1 fun v7 h=>?_;obtain rfl:=Qb h;exact u2
 refine cP h Yj p1 fun v9 h=>?_;obtain rfl:=Qb h;exact u2
def Yu (N:Nat) (n5:Int):Nat->(List UInt8)->Int->(List (List UInt8))->Option (List (List UInt8))
 | 0,_,_,_=>none
 | n+1,s28,i29,l30=>
  cond (Q6 .lss i29 (wrap .i64 (n5 - 1)))
  ((Y0 N s28).bind fun v32=>
  cond (decide (0≤v32.2)) (cond (Nat.ble 0 v32.2.toNat&&Nat.ble v32.2.toNat s28.length) ((idx (l30:List (List UInt8)) i29).bind fun y36=>
  cond (Nat.ble v32.2.toNat s28.length&&Nat.ble s28.length s28.length) (Yu N n5 n ((s28.take s28.length).drop v32.2.toNat) (wrap .i64 (i29+1)) ((l30:List (List UInt8)).set (Int.toNat i29) ((s28.take v32.2.toNat).drop 0))) none) none) none)
  (cond (Q6 .gtr n5 0)
  ((idx (l30:List (List UInt8)) (wrap .i64 (n5 - 1))).bind fun y40=>
  some ((l30:List (List UInt8)).set (Int.toNat (wrap .i64 (n5 - 1))) s28))
  (some l30))
def Yt (N:Nat) (s_0:List UInt8) (n5:Int):Option (List (List UInt8)):=
 cond (decide (0≤n5)&&decide (n5≤n5)&&decide (n5 * 16≤1099511627776)) (Yu N n5 N s_0 0 (List.replicate (n5:Int).toNat ([]:(List UInt8)))) none
def Jk (N:Nat) (s_0:List UInt8) (n_1:Int):Option (List (List UInt8)):=
 (Y8 N s_0).bind fun v1=>
 cond (Q6 .lss n_1 0)
 (Yt N s_0 v1)
 (cond (Q6 .gtr n_1 v1)
 (Yt N s_0 v1)
 (Yt N s_0 n_1))
theorem Q4q {N} {s_0} {n_1} {r} (h:Jk N s_0 n_1=some r):pU 240 [.str s_0,.int .i64 n_1] (.slice 1 (Qg cS r)):=by
 refine Q2 Qyn ?_;unfold Jk at h;rw [cX] at h;refine cP h Ue p1 fun v1 h=>?_;refine jrH (r:=r) (σ:=Int) (fun n5=>(iS s_0::iI n5::a16 (a16 (a16 ([]))):List AV)) (fun n5=>Yt N s_0 n5) ?_ ?_
 ·apply iU h<;>intro h
  ·show Exists _;exact ⟨(v1),h,(fun i=>i),Z2⟩
  apply iU h<;>intro h
  ·show Exists _;exact ⟨(v1),h,(fun i=>i),Z2⟩
  show Exists _;exact ⟨(n_1),h,(fun i=>i),Z2⟩
 rintro n5 h
 unfold Yt at h;refine kU h fun h=>?_;refine Qqc (c:=cS) ([]:(List UInt8)) rfl ?_;refine lpC (τ:=(List UInt8)×Int×(List (List UInt8))) (fun ⟨s28,i29,l30⟩=>(iS s28::iI n5::a4 (.slice 1 1 0 l30.length::iI i29::a16 (a16 (a8 (a2 ([]))))):List AV)) (fun ⟨_,_,l30⟩=>(.dead :: .cells (Z0 cS l30) :: []:List AObj)) (fun n1 ⟨s28,i29,l30⟩=>Yu N n5 n1 s28 i29 l30) (s_0,0,(List.replicate (n5:Int).toNat ([]:(List UInt8)))) h (rho [0,0]) Z2 fun n1 ⟨s28,i29,l30⟩ h=>?_
 first | rw [Yu] at h | simp only [Yu] at h
 rw [cX] at h;apply iU h<;>intro h
 ·refine cP h U0 p1 fun v32 h=>?_;obtain ⟨hk34,h⟩:=Q3x h;refine Uo hk34 ?_;refine kU h fun h=>?_;obtain ⟨y36,hy37,h⟩:=Vd h;refine Uo (Vy hy37 sd) ?_;refine Uo (Vh (c:=cS) (e:=1) (fun _=>rfl) hy37 (off:=0) (by omega) rfl (by decide)) ?_
  refine Vk (c:=cS) (e:=1) (fun _=>rfl) hy37 ((s28.take v32.2.toNat).drop 0) (off:=0) (by first | omega | (simp only [Q0w,orI,Qfs,V9,Q37,Qa7];omega)) rfl (by simp) ?_
  refine Uo hk34 ?_;refine kU h fun h=>?_;show Exists _;exact ⟨(n1,((s28.take s28.length).drop v32.2.toNat),(wrap .i64 (i29+1)),((l30:List (List UInt8)).set (Int.toNat i29) ((s28.take v32.2.toNat).drop 0))),h,Ll _,(fun i=>i),Z2⟩
 apply iU h<;>intro h
 ·obtain ⟨y40,hy41,h⟩:=Vd h;refine Uo (Vy hy41 sd) ?_;refine Uo (Vh (c:=cS) (e:=1) (fun _=>rfl) hy41 (off:=0) (by omega) rfl (by decide)) ?_
  refine Vk (c:=cS) (e:=1) (fun _=>rfl) hy41 s28 (off:=0) (by first | omega | (simp only [Q0w,orI,Qfs,V9,Q37,Qa7];omega)) rfl (by simp) ?_
  obtain rfl:=Qb h;exact (frz_own (c:=cS) (l:=(((l30:List (List UInt8)).set (Int.toNat (wrap .i64 (n5 - 1))) s28):List (List UInt8))) (fun _=>rfl) rfl trivial sd)
 obtain rfl:=Qb h;exact (frz_own (c:=cS) (l:=(l30:List (List UInt8))) (fun _=>rfl) rfl trivial sd)
def X0 (N:Nat) (s_0:List UInt8):Nat->(List UInt8)->Int->(List (List UInt8))->Option (List (List UInt8))
 | 0,_,_,_=>none
 | n+1,s36,i37,l38=>
  cond (Q6 .lss i37 (wrap .i64 ((ifB (decide ((wrap .i64 ((s_0.length:Int)+1))<(wrap .i64 ((Qac s_0 (UInt8.ofNat (Int.toNat 47)) 0:Int)+1)))) (wrap .i64 ((s_0.length:Int)+1)) (wrap .i64 ((Qac s_0 (UInt8.ofNat (Int.toNat 47)) 0:Int)+1))) - 1)))
  (cond (Q31 .eql [47] s36)
  ((idx (l38:List (List UInt8)) i37).bind fun y41=>
  cond (Nat.ble 1 s36.length&&Nat.ble s36.length s36.length) (X0 N s_0 n ((s36.take s36.length).drop 1) (wrap .i64 (i37+1)) ((l38:List (List UInt8)).set (Int.toNat i37) ((s36.take 0).drop 0))) none)
  ((Za N s36 47).bind fun v44=>
  cond (Q6 .lss v44 0)
  ((idx (l38:List (List UInt8)) i37).bind fun y47=>
  cond (decide (0≤(wrap .i64 (i37+1)))) (cond (Nat.ble 0 ((wrap .i64 (i37+1)).toNat)&&Nat.ble ((wrap .i64 (i37+1)).toNat) l38.length) (some ((((l38:List (List UInt8)).set (Int.toNat i37) s36):List (List UInt8)).take ((wrap .i64 (i37+1)).toNat))) none) none)
  (cond (decide (0≤(wrap .i64 (v44+0)))) (cond (Nat.ble 0 ((wrap .i64 (v44+0)).toNat)&&Nat.ble ((wrap .i64 (v44+0)).toNat) s36.length) ((idx (l38:List (List UInt8)) i37).bind fun y53=>
  cond (decide (0≤(wrap .i64 (v44+1)))) (cond (Nat.ble (wrap .i64 (v44+1)).toNat s36.length&&Nat.ble s36.length s36.length) (X0 N s_0 n ((s36.take s36.length).drop ((wrap .i64 (v44+1)).toNat)) (wrap .i64 (i37+1)) ((l38:List (List UInt8)).set (Int.toNat i37) ((s36.take ((wrap .i64 (v44+0)).toNat)).drop 0))) none) none) none) none)))
  ((idx (l38:List (List UInt8)) i37).bind fun y57=>
  cond (decide (0≤(wrap .i64 (i37+1)))) (cond (Nat.ble 0 ((wrap .i64 (i37+1)).toNat)&&Nat.ble ((wrap .i64 (i37+1)).toNat) l38.length) (some ((((l38:List (List UInt8)).set (Int.toNat i37) s36):List (List UInt8)).take ((wrap .i64 (i37+1)).toNat))) none) none)
def Q1l (N:Nat) (s_0:List UInt8):Option (List (List UInt8)):=
 cond (Q31 .eql [47] [])
 ((Jk N s_0 (-1)).bind fun v2=>
 some v2)
 (cond (decide (0≤(ifB (decide ((wrap .i64 ((s_0.length:Int)+1))<(wrap .i64 ((Qac s_0 (UInt8.ofNat (Int.toNat 47)) 0:Int)+1)))) (wrap .i64 ((s_0.length:Int)+1)) (wrap .i64 ((Qac s_0 (UInt8.ofNat (Int.toNat 47)) 0:Int)+1))))&&decide ((ifB (decide ((wrap .i64 ((s_0.length:Int)+1))<(wrap .i64 ((Qac s_0 (UInt8.ofNat (Int.toNat 47)) 0:Int)+1)))) (wrap .i64 ((s_0.length:Int)+1)) (wrap .i64 ((Qac s_0 (UInt8.ofNat (Int.toNat 47)) 0:Int)+1)))≤(ifB (decide ((wrap .i64 ((s_0.length:Int)+1))<(wrap .i64 ((Qac s_0 (UInt8.ofNat (Int.toNat 47)) 0:Int)+1)))) (wrap .i64 ((s_0.length:Int)+1)) (wrap .i64 ((Qac s_0 (UInt8.ofNat (Int.toNat 47)) 0:Int)+1))))&&decide ((ifB (decide ((wrap .i64 ((s_0.length:Int)+1))<(wrap .i64 ((Qac s_0 (UInt8.ofNat (Int.toNat 47)) 0:Int)+1)))) (wrap .i64 ((s_0.length:Int)+1)) (wrap .i64 ((Qac s_0 (UInt8.ofNat (Int.toNat 47)) 0:Int)+1))) * 16≤1099511627776)) (X0 N s_0 N s_0 0 (List.replicate ((ifB (decide ((wrap .i64 ((s_0.length:Int)+1))<(wrap .i64 ((Qac s_0 (UInt8.ofNat (Int.toNat 47)) 0:Int)+1)))) (wrap .i64 ((s_0.length:Int)+1)) (wrap .i64 ((Qac s_0 (UInt8.ofNat (Int.toNat 47)) 0:Int)+1))):Int).toNat ([]:(List UInt8)))) none)
theorem Q78 {N} {s_0} {r} (h:Q1l N s_0=some r):pU 125 [.str s_0] (.slice 1 (Qg cS r)):=by
 refine Q2 Qz0 ?_;unfold Q1l at h;rw [cY] at h;refine Q3 Qyp ?_;refine Q3 Qvj ?_;refine dF ?_;apply iU h<;>intro h
 ·refine cP h Q4q p2 fun v2 h=>?_;cases h;exact (.p _)
 refine dT ?_;refine Q3 Qvl ?_;refine dF ?_;refine dT ?_;refine kU h fun h=>?_;refine Qqc (c:=cS) ([]:(List UInt8)) rfl ?_;refine lpC (τ:=(List UInt8)×Int×(List (List UInt8))) (fun ⟨s36,i37,l38⟩=>(iS s36::iS [47]::iI 0 :: .p (.int .i64 (wrap .i64 ((ifB (decide ((wrap .i64 ((s_0.length:Int)+1))<(wrap .i64 ((Qac s_0 (UInt8.ofNat (Int.toNat 47)) 0:Int)+1)))) (wrap .i64 ((s_0.length:Int)+1)) (wrap .i64 ((Qac s_0 (UInt8.ofNat (Int.toNat 47)) 0:Int)+1))) - 1)))::a4 (.any :: .slice 1 1 0 l38.length::iI i37::a16 (a16 (a16 (a4 (a2 (.any :: [])))))):List AV)) (fun ⟨_,_,l38⟩=>(.dead :: .cells (Z0 cS l38) :: []:List AObj)) (fun n0 ⟨s36,i37,l38⟩=>X0 N s_0 n0 s36 i37 l38) (s_0,0,(List.replicate ((ifB (decide ((wrap .i64 ((s_0.length:Int)+1))<(wrap .i64 ((Qac s_0 (UInt8.ofNat (Int.toNat 47)) 0:Int)+1)))) (wrap .i64 ((s_0.length:Int)+1)) (wrap .i64 ((Qac s_0 (UInt8.ofNat (Int.toNat 47)) 0:Int)+1))):Int).toNat ([]:(List UInt8)))) h (rho [0,0]) Z2 fun n0 ⟨s36,i37,l38⟩ h=>?_
 first | rw [X0] at h | simp only [X0] at h
 rw [cX,cY] at h;apply iU h<;>intro h
 ·refine Q3 Z3l ?_;refine Q3 Z3c ?_;refine dF ?_;apply iU h<;>intro h
  ·refine dF ?_;obtain ⟨y41,hy42,h⟩:=Vd h;refine Uo (Vy hy42 sd) ?_;refine Uo (Vh (c:=cS) (e:=1) (fun _=>rfl) hy42 (off:=0) (by omega) rfl (by decide)) ?_
   refine Vk (c:=cS) (e:=1) (fun _=>rfl) hy42 ((s36.take 0).drop 0) (off:=0) (by first | omega | (simp only [Q0w,orI,Qfs,V9,Q37,Qa7];omega)) rfl (by simp) ?_
   refine kU h fun h=>?_;show Exists _;exact ⟨(n0,((s36.take s36.length).drop 1),(wrap .i64 (i37+1)),((l38:List (List UInt8)).set (Int.toNat i37) ((s36.take 0).drop 0))),h,Ll _,(fun i=>i),Z2⟩
  refine dT ?_;refine cP h X7 p2 fun v44 h=>?_;apply iU h<;>intro h
  ·obtain ⟨y47,hy48,h⟩:=Vd h;refine Uo (Vy hy48 sd) ?_;refine Uo (Vh (c:=cS) (e:=1) (fun _=>rfl) hy48 (off:=0) (by omega) rfl (by decide)) ?_
   refine Vk (c:=cS) (e:=1) (fun _=>rfl) hy48 s36 (off:=0) (by first | omega | (simp only [Q0w,orI,Qfs,V9,Q37,Qa7];omega)) rfl (by simp) ?_
   refine kU h fun h=>?_;obtain ⟨hk50,h⟩:=Q3x h;refine Uo hk50 ?_;obtain rfl:=Qb h;exact (Qhk (c:=cS) (l:=(((l38:List (List UInt8)).set (Int.toNat i37) s36):List (List UInt8))) (fun _=>rfl) rfl trivial (by have e:l38.length=(((l38:List (List UInt8)).set (Int.toNat i37) s36):List (List UInt8)).length:=sd;simp only [Lb,Cm] at hk50;omega))
  refine kU h fun h=>?_;refine kU h fun h=>?_;obtain ⟨y53,hy54,h⟩:=Vd h;refine Uo (Vy hy54 sd) ?_;refine Uo (Vh (c:=cS) (e:=1) (fun _=>rfl) hy54 (off:=0) (by omega) rfl (by decide)) ?_
  refine Vk (c:=cS) (e:=1) (fun _=>rfl) hy54 ((s36.take ((wrap .i64 (v44+0)).toNat)).drop 0) (off:=0) (by first | omega | (simp only [Q0w,orI,Qfs,V9,Q37,Qa7];omega)) rfl (by simp) ?_
  refine kU h fun h=>?_;refine kU h fun h=>?_;show Exists _;exact ⟨(n0,((s36.take s36.length).drop ((wrap .i64 (v44+1)).toNat)),(wrap .i64 (i37+1)),((l38:List (List UInt8)).set (Int.toNat i37) ((s36.take ((wrap .i64 (v44+0)).toNat)).drop 0))),h,Ll _,(fun i=>i),Z2⟩
 obtain ⟨y57,hy58,h⟩:=Vd h;refine Uo (Vy hy58 sd) ?_;refine Uo (Vh (c:=cS) (e:=1) (fun _=>rfl) hy58 (off:=0) (by omega) rfl (by decide)) ?_
 refine Vk (c:=cS) (e:=1) (fun _=>rfl) hy58 s36 (off:=0) (by first | omega | (simp only [Q0w,orI,Qfs,V9,Q37,Qa7];omega)) rfl (by simp) ?_
 refine kU h fun h=>?_;obtain ⟨hk60,h⟩:=Q3x h;refine Uo hk60 ?_;obtain rfl:=Qb h;exact (Qhk (c:=cS) (l:=(((l38:List (List UInt8)).set (Int.toNat i37) s36):List (List UInt8))) (fun _=>rfl) rfl trivial (by have e:l38.length=(((l38:List (List UInt8)).set (Int.toNat i37) s36):List (List UInt8)).length:=sd;simp only [Lb,Cm] at hk60;omega))
def G6 (N:Nat) (s_0:List UInt8):Option Bool:=
 (Q15 N s_0).bind fun v1=>
 cond v1
 ((Q1l N s_0).bind fun v4=>
 (Q1d N v4).bind fun v6=>
 some v6)
 (some false)
theorem Q1x {N} {s_0} {r} (h:G6 N s_0=some r):pU 86 [.str s_0] (.bool r):=by
 refine Q2 k86 ?_;unfold G6 at h;refine cP h Q3j p1 fun v1 h=>?_;refine iR h fun h=>?_;refine cP h Q78 p1 fun v4 h=>?_;refine cP h Q7d p1 fun v6 h=>?_;cases h;exact (.p _)
def Ge (N:Nat) (m:X1):Option Int:=
 cond (Q6 .eql m.Type' 4)
 (cond (Q31 .neq m.Name [])
 (cond (Q6 .leq (m.Name.length:Int) 23)
 ((Y3 N m.Name).bind fun v4=>
 cond v4
 (some 0)
 (some 6))
 (some 6))
 (some 6))
 (cond (Q6 .eql m.Type' 22)
 (cond (Q6 .leq (m.Name.length:Int) 23)
 ((Y3 N m.Name).bind fun v9=>
 cond v9
 (some 0)
 (some 6))
 (some 6))
 (cond (Q6 .eql m.Type' 10)
 ((Y6 N m.Name).bind fun v13=>
 cond v13
 (some 0)
 (some 10))
 (cond (Q6 .eql m.Type' 7)
 (cond (Q31 .eql m.Name [])
 (some 0)
 ((Y6 N m.Name).bind fun v18=>
 cond v18
 (some 0)
 (some 10)))
 (cond (Q6 .eql m.Type' 26)
 (cond (Q31 .eql m.Name [])
 (some 0)
 ((Y6 N m.Name).bind fun v23=>
 cond v23
 (some 0)
 (some 10)))
 (cond (Q6 .eql m.Type' 18)
 (cond (Q6 .neq m.Flags.Type' 0)
 (some 0)
 ((G6 N m.Name).bind fun v28=>
 cond v28
 (some 0)
 (some 10)))
 (cond (Q6 .eql m.Type' 20)
 (cond (Q6 .neq m.Flags.Type' 0)
 (some 0)
 ((G6 N m.Name).bind fun v33=>
 cond v33
 (some 0)
 (some 10)))
 (cond (Q6 .eql m.Type' 2)
 (cond (Q6 .leq (m.Name.length:Int) 16)
 (some 0)
 (some 2))
 (some 0))))))))
theorem Q0m {N} {m} {r} (h:Ge N m=some r):pU 48 [.agg (X1.cells m)] (.int .i64 r):=by
 refine Q2 k48 ?_;unfold Ge at h;rw [cX,cY] at h;apply iU h<;>intro h
 ·refine iR h fun h=>?_;refine iR h fun h=>?_;refine cP h Zy p1 fun v4 h=>?_;exact iB h
 apply iU h<;>intro h
 ·refine iR h fun h=>?_;refine cP h Zy p1 fun v9 h=>?_;exact iB h
 apply iU h<;>intro h
 ·refine cP h Zi p1 fun v13 h=>?_;exact iB h
 refine ifO h (fun hc16 h=>?_) (fun hc16 h=>?_)
 ·refine ifT hc16 ?_;refine iL h fun h=>?_;refine cP h Zi p1 fun v18 h=>?_;exact iB h
 apply iU h<;>intro h
 ·refine iL h fun h=>?_;refine cP h Zi p1 fun v23 h=>?_;exact iB h
 refine ifO h (fun hc26 h=>?_) (fun hc26 h=>?_)
 ·refine ifT hc26 ?_;refine iL h fun h=>?_;refine cP h Q1x p1 fun v28 h=>?_;exact iB h
 apply iU h<;>intro h
 ·refine iL h fun h=>?_;refine cP h Q1x p1 fun v33 h=>?_;exact iB h
 refine iR h fun h=>?_;exact iB h
def Ws (N:Nat) (kind:Int) (rest:Int):Option ((List UInt8)×Int):=
 (G0 N kind).bind fun v1=>
 cond (!v1)
 (some ([],8))
 (cond (Q6 .lss rest 0)
 (some ([],2))
 (cond (Q6 .gtr rest 65531)
 (some ([],4))
 (cond (Q6 .leq (wrap .i64 (rest+2)) 255)
 ((Qs N (wrap .u64 (wrap .i64 (rest+2))) 1).bind fun v7=>
 (Qs N (wrap .u64 kind) 1).bind fun v9=>
 cond (Nat.ble (v7.length+v9.length) 4611686018427387904) (some ((v7++v9),0)) none)
 ((Qs N 1 1).bind fun v12=>
 (Qs N (wrap .u64 (wrap .i64 (rest+4))) 2).bind fun v14=>
 cond (Nat.ble (v12.length+v14.length) 4611686018427387904) ((Qs N (wrap .u64 kind) 1).bind fun v17=>
 cond (Nat.ble ((v12++v14).length+v17.length) 4611686018427387904) (some (((v12++v14)++v17),0)) none) none))))
theorem Vp {N} {kind} {rest} {r} (h:Ws N kind rest=some r):pU 49 [.int .i64 kind,.int .i64 rest] (.tuple [.str r.1,.int .i64 r.2]):=by
 refine Q2 k49 ?_;unfold Ws at h;rw [cX] at h;refine cP h Q1r p1 fun v1 h=>?_;refine iL2 h fun h=>?_;refine iL2 h fun h=>?_;refine iL2 h fun h=>?_;apply iU h<;>intro h
 ·refine cP h Qm p2 fun v7 h=>?_;refine cP h Qm p2 fun v9 h=>?_;refine kU h fun h=>?_;obtain rfl:=Qb h;exact u2
 refine cP h Qm p2 fun v12 h=>?_;refine cP h Qm p2 fun v14 h=>?_;refine kU h fun h=>?_;refine cP h Qm p2 fun v17 h=>?_;refine kU h fun h=>?_;obtain rfl:=Qb h;exact u2
def Uh (N:Nat) (m:X1):Option (List UInt8):=
 (Zs N (⟨1,m,[],false⟩:Q0)).bind fun v1=>
 some (v1.2.out.map fun n=>UInt8.ofNat n.toNat)
theorem Uy {N} {m} {r} (h:Uh N m=some r):pU 50 [.agg (X1.cells m)] (.str r):=by
 refine Q2 k50 ?_;unfold Uh at h;refine cG h Yo fun v1 h=>?_;refine ⟨rho [1,3],(.cells (Qf6 m ([])) :: .cells (Xz v1.2 2) :: .cells (Z0 (cI .u8) v1.2.out) :: []),.tuple [],⟨(rE rfl <| rN),(hC rfl (rE rfl <| rE rfl <| rE rfl <| rE rfl <| rE rfl <| rE rfl <| rE rfl <| rE rfl <| rE rfl <| rE rfl <| rE rfl <| rE rfl <| rE rfl <| rE rfl <| rE rfl <| rE rfl <| rE rfl <| rE rfl <| rS <| rE rfl <| rN) <| hV lb <| hN),rfl,rfl,(roE rfl <| roE (Yw _ _ _) <| roN),rfl,(fK rfl rfl <| fR 0 rfl rfl rfl rfl <| fO 2 rfl rfl rfl <| fN),rfl⟩,?_⟩;refine Qfr (l:=v1.2.out) (n:=v1.2.out.length) sd ?_;cases h;exact (.p _)
def Q05 (N:Nat) (m:X1):Option Int:=
 (Q0e N m.Type').bind fun v1=>
 cond (!v1)
 (some 8)
 ((Q40 N m.Type' m.Flags).bind fun v4=>
 cond (!v4)
 (some 7)
 ((Q49 N m.Type').bind fun v7=>
 cond v7
 (cond (Q31 .eql m.Name [])
 (cond (!(((m.Flags.Dup:Bool) == false)&&(((m.Flags.QoS:Int) == 0)&&(((m.Flags.Retain:Bool) == false)&&(((m.Flags.Will:Bool) == false)&&(((m.Flags.Clean:Bool) == false)&&(((m.Flags.Type':Int) == 0)&&true)))))))
 (some 7)
 ((Zs N (⟨2,m,[],false⟩:Q0)).bind fun v12=>
 cond v12.2.bad
 (some 2)
 (cond (!(((v12.2.m.Type':Int) == m.Type')&&(((v12.2.m.Flags.Dup:Bool) == m.Flags.Dup)&&(((v12.2.m.Flags.QoS:Int) == m.Flags.QoS)&&(((v12.2.m.Flags.Retain:Bool) == m.Flags.Retain)&&(((v12.2.m.Flags.Will:Bool) == m.Flags.Will)&&(((v12.2.m.Flags.Clean:Bool) == m.Flags.Clean)&&(((v12.2.m.Flags.Type':Int) == m.Flags.Type')&&(((v12.2.m.Gateway:Int) == 0)&&(((v12.2.m.Radius:Int) == 0)&&(((v12.2.m.Time:Int) == 0)&&(((v12.2.m.Timed:Bool) == false)&&(((v12.2.m.TopicID:Int) == 0)&&(((v12.2.m.MsgID:Int) == 0)&&(((v12.2.m.Code:Int) == 0)&&(((v12.2.m.Name:List UInt8) == [])&&(((v12.2.m.Data:List UInt8) == [])&&true)))))))))))))))))
 (some 2)
 ((J1 N m).bind fun v16=>
 cond (!v16)
 (some 2)
 ((V8 N m).bind fun v19=>
 cond (Q6 .neq v19 0)
 (some v19)
 ((Ge N m).bind fun v22=>
 cond (Q6 .neq v22 0)
 (some v22)
 ((Uh N m).bind fun v25=>
 (Ws N m.Type' (v25.length:Int)).bind fun v27=>
 some v27.2)))))))
 ((Zs N (⟨2,m,[],false⟩:Q0)).bind fun v29=>
 cond v29.2.bad
 (some 2)
 (cond (!(((v29.2.m.Type':Int) == m.Type')&&(((v29.2.m.Flags.Dup:Bool) == m.Flags.Dup)&&(((v29.2.m.Flags.QoS:Int) == m.Flags.QoS)&&(((v29.2.m.Flags.Retain:Bool) == m.Flags.Retain)&&(((v29.2.m.Flags.Will:Bool) == m.Flags.Will)&&(((v29.2.m.Flags.Clean:Bool) == m.Flags.Clean)&&(((v29.2.m.Flags.Type':Int) == m.Flags.Type')&&(((v29.2.m.Gateway:Int) == 0)&&(((v29.2.m.Radius:Int) == 0)&&(((v29.2.m.Time:Int) == 0)&&(((v29.2.m.Timed:Bool) == false)&&(((v29.2.m.TopicID:Int) == 0)&&(((v29.2.m.MsgID:Int) == 0)&&(((v29.2.m.Code:Int) == 0)&&(((v29.2.m.Name:List UInt8) == [])&&(((v29.2.m.Data:List UInt8) == [])&&true)))))))))))))))))
 (some 2)
 ((J1 N m).bind fun v33=>
 cond (!v33)
 (some 2)
 ((V8 N m).bind fun v36=>
 cond (Q6 .neq v36 0)
 (some v36)
 ((Ge N m).bind fun v39=>
 cond (Q6 .neq v39 0)
 (some v39)
 ((Uh N m).bind fun v42=>
 (Ws N m.Type' (v42.length:Int)).bind fun v44=>
 some v44.2)))))))
 ((Zs N (⟨2,m,[],false⟩:Q0)).bind fun v46=>
 cond v46.2.bad
 (some 2)
 (cond (!(((v46.2.m.Type':Int) == m.Type')&&(((v46.2.m.Flags.Dup:Bool) == m.Flags.Dup)&&(((v46.2.m.Flags.QoS:Int) == m.Flags.QoS)&&(((v46.2.m.Flags.Retain:Bool) == m.Flags.Retain)&&(((v46.2.m.Flags.Will:Bool) == m.Flags.Will)&&(((v46.2.m.Flags.Clean:Bool) == m.Flags.Clean)&&(((v46.2.m.Flags.Type':Int) == m.Flags.Type')&&(((v46.2.m.Gateway:Int) == 0)&&(((v46.2.m.Radius:Int) == 0)&&(((v46.2.m.Time:Int) == 0)&&(((v46.2.m.Timed:Bool) == false)&&(((v46.2.m.TopicID:Int) == 0)&&(((v46.2.m.MsgID:Int) == 0)&&(((v46.2.m.Code:Int) == 0)&&(((v46.2.m.Name:List UInt8) == [])&&(((v46.2.m.Data:List UInt8) == [])&&true)))))))))))))))))
 (some 2)
 ((J1 N m).bind fun v50=>
 cond (!v50)
 (some 2)
 ((V8 N m).bind fun v53=>
 cond (Q6 .neq v53 0)
 (some v53)
 ((Ge N m).bind fun v56=>
 cond (Q6 .neq v56 0)
 (some v56)
 ((Uh N m).bind fun v59=>
 (Ws N m.Type' (v59.length:Int)).bind fun v61=>
 some v61.2))))))))
theorem Q33 {N} {m} {r} (h:Q05 N m=some r):pU 24 [.agg (X1.cells m)] (.int .i64 r):=by
 refine Q2 k24 ?_;unfold Q05 at h;rw [cX,cY] at h;refine cP h Q6i p1 fun v1 h=>?_;refine iL h fun h=>?_;refine cP h Qa2 (.cons (.p _) (.cons (Ar (.cons (.p _) p5)) .nil)) fun v4 h=>?_;refine iL h fun h=>?_;refine cP h Q9u p1 fun v7 h=>?_;apply iU h<;>intro h
 ·apply iU h<;>intro h
  ·refine iL h fun h=>?_;refine cG h Yo fun v12 h=>?_;refine ⟨rho [1,3],(.cells (Qf6 m ([])) :: .cells (Xz v12.2 2) :: .cells (Z0 (cI .u8) v12.2.out) :: []),.tuple [],⟨(rE rfl <| rN),(hC rfl (rE rfl <| rE rfl <| rE rfl <| rE rfl <| rE rfl <| rE rfl <| rE rfl <| rE rfl <| rE rfl <| rE rfl <| rE rfl <| rE rfl <| rE rfl <| rE rfl <| rE rfl <| rE rfl <| rE rfl <| rE rfl <| rS <| rE rfl <| rN) <| hV lb <| hN),rfl,rfl,(roE rfl <| roE (Yw _ _ _) <| roN),rfl,(fK rfl rfl <| fR 0 rfl rfl rfl rfl <| fO 2 rfl rfl rfl <| fN),rfl⟩,?_⟩;refine iL h fun h=>?_;refine iL h fun h=>?_;refine cP h Gr (.cons (Ar (f8_ (f2_ (.cons (.p _) p5)))) .nil) fun v16 h=>?_;refine iL h fun h=>?_;refine cP h J9 (.cons (Ar (f8_ (f2_ (.cons (.p _) p5)))) .nil) fun v19 h=>?_;refine iL h fun h=>?_;refine cP h Q0m (.cons (Ar (f8_ (f2_ (.cons (.p _) p5)))) .nil) fun v22 h=>?_;refine iL h fun h=>?_;refine Qa ?_;refine cD h Uy (.cons (Ar (f8_ (f2_ (.cons (.p _) p5)))) .nil) fun v25 h=>?_;refine cD h Vp p2 fun v27 h=>?_;cases h;exact (.p _)
  refine cG h Yo fun v29 h=>?_;refine ⟨rho [1,3],(.cells (Qf6 m ([])) :: .cells (Xz v29.2 2) :: .cells (Z0 (cI .u8) v29.2.out) :: []),.tuple [],⟨(rE rfl <| rN),(hC rfl (rE rfl <| rE rfl <| rE rfl <| rE rfl <| rE rfl <| rE rfl <| rE rfl <| rE rfl <| rE rfl <| rE rfl <| rE rfl <| rE rfl <| rE rfl <| rE rfl <| rE rfl <| rE rfl <| rE rfl <| rE rfl <| rS <| rE rfl <| rN) <| hV lb <| hN),rfl,rfl,(roE rfl <| roE (Yw _ _ _) <| roN),rfl,(fK rfl rfl <| fR 0 rfl rfl rfl rfl <| fO 2 rfl rfl rfl <| fN),rfl⟩,?_⟩;refine iL h fun h=>?_;refine iL h fun h=>?_;refine cP h Gr (.cons (Ar (f8_ (f2_ (.cons (.p _) p5)))) .nil) fun v33 h=>?_;refine iL h fun h=>?_;refine cP h J9 (.cons (Ar (f8_ (f2_ (.cons (.p _) p5)))) .nil) fun v36 h=>?_;refine iL h fun h=>?_;refine cP h Q0m (.cons (Ar (f8_ (f2_ (.cons (.p _) p5)))) .nil) fun v39 h=>?_;refine iL h fun h=>?_;refine Qa ?_;refine cD h Uy (.cons (Ar (f8_ (f2_ (.cons (.p _) p5)))) .nil) fun v42 h=>?_;refine cD h Vp p2 fun v44 h=>?_;cases h;exact (.p _)
 refine cG h Yo fun v46 h=>?_;refine ⟨rho [1,3],(.cells (Qf6 m ([])) :: .cells (Xz v46.2 2) :: .cells (Z0 (cI .u8) v46.2.out) :: []),.tuple [],⟨(rE rfl <| rN),(hC rfl (rE rfl <| rE rfl <| rE rfl <| rE rfl <| rE rfl <| rE rfl <| rE rfl <| rE rfl <| rE rfl <| rE rfl <| rE rfl <| rE rfl <| rE rfl <| rE rfl <| rE rfl <| rE rfl <| rE rfl <| rE rfl <| rS <| rE rfl <| rN) <| hV lb <| hN),rfl,rfl,(roE rfl <| roE (Yw _ _ _) <| roN),rfl,(fK rfl rfl <| fR 0 rfl rfl rfl rfl <| fO 2 rfl rfl rfl <| fN),rfl⟩,?_⟩;refine iL h fun h=>?_;refine iL h fun h=>?_;refine cP h Gr (.cons (Ar (f8_ (f2_ (.cons (.p _) p5)))) .nil) fun v50 h=>?_;refine iL h fun h=>?_;refine cP h J9 (.cons (Ar (f8_ (f2_ (.cons (.p _) p5)))) .nil) fun v53 h=>?_;refine iL h fun h=>?_;refine cP h Q0m (.cons (Ar (f8_ (f2_ (.cons (.p _) p5)))) .nil) fun v56 h=>?_;refine iL h fun h=>?_;refine Qa ?_;refine cD h Uy (.cons (Ar (f8_ (f2_ (.cons (.p _) p5)))) .nil) fun v59 h=>?_;refine cD h Vp p2 fun v61 h=>?_;cases h;exact (.p _)
def Q06 (N:Nat) (m:X1):Option ((List UInt8)×Int):=
 (Q05 N m).bind fun v1=>
 cond (Q6 .neq v1 0)
 (some ([],v1))
 ((Uh N m).bind fun v4=>
 (Ws N m.Type' (v4.length:Int)).bind fun v6=>
 cond (Q6 .neq v6.2 0)
 (some ([],v6.2))
 (cond (Nat.ble (v6.1.length+v4.length) 4611686018427387904) (some ((v6.1++v4),0)) none))
theorem Q30 {N} {m} {r} (h:Q06 N m=some r):pU 40 [.agg (X1.cells m)] (.tuple [.str r.1,.int .i64 r.2]):=by
 refine Q2 k40 ?_;unfold Q06 at h;rw [cX] at h;refine cP h Q33 (.cons (Ar (f8_ (f2_ (.cons (.p _) p5)))) .nil) fun v1 h=>?_;refine iL2 h fun h=>?_;refine cP h Uy (.cons (Ar (f8_ (f2_ (.cons (.p _) p5)))) .nil) fun v4 h=>?_;refine cP h Vp p2 fun v6 h=>?_;refine iL2 h fun h=>?_;refine kU h fun h=>?_;obtain rfl:=Qb h;exact u2
def Vq (N:Nat) (h_0:V5):Option (List UInt8):=
 (Qs N (wrap .u64 (wrap .i64 (3+(h_0.Node.length:Int)))) 1).bind fun v1=>
 (Qs N 254 1).bind fun v3=>
 cond (Nat.ble (v1.length+v3.length) 4611686018427387904) ((Qs N (wrap .u64 h_0.Radius) 1).bind fun v6=>
 cond (Nat.ble ((v1++v3).length+v6.length) 4611686018427387904) (cond (Nat.ble (((v1++v3)++v6).length+h_0.Node.length) 4611686018427387904) (some (((v1++v3)++v6)++h_0.Node)) none) none) none
theorem Gx {N} {h_0} {r} (h:Vq N h_0=some r):pU 41 [.agg (V5.cells h_0)] (.str r):=by
 refine Q2 k41 ?_;unfold Vq at h;refine Qa ?_;refine cD h Qm p2 fun v1 h=>?_;refine cD h Qm p2 fun v3 h=>?_;refine kU h fun h=>?_;refine cD h Qm p2 fun v6 h=>?_;refine kU h fun h=>?_;refine kU h fun h=>?_;cases h;exact (.p _)
def W6 (N:Nat) (d:Qf) (l:Zv) (v26:(List UInt8)×Int):Nat->(List UInt8)->Int->Option ((List UInt8)×Int)
 | 0,_,_=>none
 | n+1,out43,s44=>
  cond (Q6 .lss s44 ((Qg V5.cells d.Hops).length:Int))
  ((idx d.Hops s44).bind fun y46=>
  (Vq N y46).bind fun v48=>
  cond (Nat.ble (out43.length+v48.length) 4611686018427387904) (W6 N d l v26 n (out43++v48) (wrap .i64 (s44+1))) none)
  (cond (Q6 .gtr (wrap .i64 ((out43.length:Int)+(v26.1.length:Int))) l.MaxPacket)
  (some ([],4))
  (cond (Nat.ble (out43.length+v26.1.length) 4611686018427387904) (some ((out43++v26.1),0)) none))
def Wg (N:Nat) (d:Qf) (l:Zv) (v53:(List UInt8)×Int):Nat->(List UInt8)->Int->Option ((List UInt8)×Int)
 | 0,_,_=>none
 | n+1,out70,s71=>
  cond (Q6 .lss s71 ((Qg V5.cells d.Hops).length:Int))
  ((idx d.Hops s71).bind fun y73=>
  (Vq N y73).bind fun v75=>
  cond (Nat.ble (out70.length+v75.length) 4611686018427387904) (Wg N d l v53 n (out70++v75) (wrap .i64 (s71+1))) none)
  (cond (Q6 .gtr (wrap .i64 ((out70.length:Int)+(v53.1.length:Int))) l.MaxPacket)
  (some ([],4))
  (cond (Nat.ble (out70.length+v53.1.length) 4611686018427387904) (some ((out70++v53.1),0)) none))
def W8 (N:Nat) (d:Qf) (l:Zv):Nat->Int->Option ((List UInt8)×Int)
 | 0,_=>none
 | n+1,s18=>
  cond (Q6 .lss s18 ((Qg V5.cells d.Hops).length:Int))
  ((idx d.Hops s18).bind fun y20=>
  (Gu N y20).bind fun v22=>
  cond v22
  (cond (Q6 .geq s18 0)
  (some ([],2))
  ((Q06 N d.Msg).bind fun v26=>
  cond (Q6 .neq v26.2 0)
  (some ([],v26.2))
  (W6 N d l v26 N [] 0)))
  (W8 N d l n (wrap .i64 (s18+1))))
  ((Q06 N d.Msg).bind fun v53=>
  cond (Q6 .neq v53.2 0)
  (some ([],v53.2))
  (Wg N d l v53 N [] 0))
def G8 (N:Nat) (d:Qf) (l:Zv):Option ((List UInt8)×Int):=
 (Q1b N l).bind fun v1=>
 cond (!v1)
 (some ([],2))
 (cond (Q6 .gtr ((Qg V5.cells d.Hops).length:Int) 4)
 (some ([],12))
 (W8 N d l N 0))
theorem Q1q {N} {d} {l} {r} (h:G8 N d l=some r):pU 23 [.agg (Qf.cells d),.agg (Zv.cells l)] (.tuple [.str r.1,.int .i64 r.2]):=by
 refine Q2 k23 ?_;unfold G8 at h;rw [cX] at h;refine cP h Q7e (.cons q2 .nil) fun v1 h=>?_;refine iL2 h fun h=>?_;refine iL2 h fun h=>?_;refine Q3 k37 ?_;refine Q3 k78 ?_;refine lpH (τ:=Int) (fun s18=>(.p (.slice 2 (Qg V5.cells d.Hops)) :: .p (.func (.func 38) [] [])::a4 (.any::iI ((Qg V5.cells d.Hops).length:Int)::iI s18::a8 (a2 ([]))):List AV)) (fun n0 s18=>W8 N d l n0 s18) (0) h fun n0 s18 h=>?_
 first | rw [W8] at h | simp only [W8] at h
 rw [cX] at h;apply iU h<;>intro h
 ·refine xR h fun y20 h=>?_;refine cP h Q59 (.cons q2 .nil) fun v22 h=>?_;apply iU h<;>intro h
  ·refine iL2 h fun h=>?_;refine cP h Q30 (.cons (Ar (f8_ (f2_ (.cons (.p _) p5)))) .nil) fun v26 h=>?_;refine iL2 h fun h=>?_;refine lpH (τ:=(List UInt8)×Int) (fun ⟨out43,s44⟩=>(a2 (.any :: .ptr 1 0 :: .any :: .any::iS v26.1 :: .any::iS out43::a16 (a4 (a2 (.p (.slice 2 (Qg V5.cells d.Hops))::iI ((Qg V5.cells d.Hops).length:Int)::iI s44::a16 (a2 (.any :: [])))))):List AV)) (fun n1 ⟨out43,s44⟩=>W6 N d l v26 n1 out43 s44) ([],0) h fun n1 ⟨out43,s44⟩ h=>?_
   first | rw [W6] at h | simp only [W6] at h
   rw [cX] at h;apply iU h<;>intro h
   ·refine xR h fun y46 h=>?_;refine cP h Gx (.cons q2 .nil) fun v48 h=>?_;refine kU h fun h=>?_;show Exists _;exact ⟨(n1,(out43++v48),(wrap .i64 (s44+1))),h,Ll _,(fun i=>i),Z2⟩
   refine iL2 h fun h=>?_;refine kU h fun h=>?_;obtain rfl:=Qb h;exact u2
  show Exists _;exact ⟨(n0,(wrap .i64 (s18+1))),h,Ll _,(fun i=>i),Z2⟩
 refine dF ?_;refine cP h Q30 (.cons (Ar (f8_ (f2_ (.cons (.p _) p5)))) .nil) fun v53 h=>?_;refine iL2 h fun h=>?_;refine lpH (τ:=(List UInt8)×Int) (fun ⟨out70,s71⟩=>(a2 (.any :: .ptr 1 0 :: .any :: .any::iS v53.1 :: .any::iS out70::a16 (a4 (a2 (.p (.slice 2 (Qg V5.cells d.Hops))::iI ((Qg V5.cells d.Hops).length:Int)::iI s71::a16 (a2 (.any :: [])))))):List AV)) (fun n2 ⟨out70,s71⟩=>Wg N d l v53 n2 out70 s71) ([],0) h fun n2 ⟨out70,s71⟩ h=>?_
 first | rw [Wg] at h | simp only [Wg] at h
 rw [cX] at h;apply iU h<;>intro h
 ·refine xR h fun y73 h=>?_;refine cP h Gx (.cons q2 .nil) fun v75 h=>?_;refine kU h fun h=>?_;show Exists _;exact ⟨(n2,(out70++v75),(wrap .i64 (s71+1))),h,Ll _,(fun i=>i),Z2⟩
 refine iL2 h fun h=>?_;refine kU h fun h=>?_;obtain rfl:=Qb h;exact u2
def Zx (N:Nat) (d:Qf) (l:Zv):Option Int:=
 (G8 N d l).bind fun v1=>
 some v1.2
theorem Zq {N} {d} {l} {r} (h:Zx N d l=some r):pU 17 [.agg (Qf.cells d),.agg (Zv.cells l)] (.int .i64 r):=by
 refine Q2 k17 ?_;unfold Zx at h;refine cP h Q1q (.cons (Ar (f8_ za)) (.cons q2 .nil)) fun v1 h=>?_;cases h;exact (.p _)
def Zm (_N:Nat):Option (Zv):=
 some (⟨1048576,32⟩:Zv)
theorem Y5 {N} {r} (h:Zm N=some r):pU 18 [] (.agg (Zv.cells r)):=by
 refine Q2 k18 ?_;unfold Zm at h;obtain rfl:=Qb h;exact q2
def Q72 (_N:Nat) (R:Reg) (c:List UInt8) (id:Int):Option ((List UInt8×Int)×Reg):=some (Qmj R c id,R)
theorem Q63 {N R c id r} (h:Q72 N R c id=some r):Ug Tryz.prog G1 401 R [.str c,.int .i64 id] (.tuple [.str r.1.1,.int .i64 r.1.2]) r.2:=by cases h;exact Qn7
def Q0s (_N:Nat) (R:Reg) (c:List UInt8) (id:Int):Option (Bool×Reg):=some (Qlw R c id,R)
theorem G4 {N R c id r} (h:Q0s N R c id=some r):Ug Tryz.prog G1 399 R [.str c,.int .i64 id] (.bool r.1) r.2:=by cases h;exact Ql8
def Ub (N:Nat) (a:Xs) (id:Int):Option ((List UInt8)×Bool):=
 (Vc N id).bind fun v1=>
 some (v1.1,v1.2)
theorem Q36 {N} {a} {id} {r} (h:Ub N a id=some r):pU 396 [.agg (Xs.cells a),.int .i64 id] (.tuple [.str r.1,.bool r.2]):=by
 refine Q2 Qv8 ?_;unfold Ub at h;refine cP h Vg p1 fun v1 h=>?_;obtain rfl:=Qb h;exact u2
def Ud (N:Nat) (R0:Reg) (client:List UInt8) (d:Qf):Option ((Zj×Int)×Reg):=
 (Zm N).bind fun v1=>
 (Zx N d v1).bind fun v3=>
 cond (Q6 .neq v3 0)
 (some (((⟨0,0,[],[],0,false,false,0,[],0,[],0,(⟨0,false,false,0,0,[],[],false,0,[],false,[],false,[],false,(⟨[],[],0,false,[]⟩:Q1p),false,0,[],[],[]⟩:X8),(⟨0,(⟨false,0,false,false,false,0⟩:Qp),0,0,0,false,0,0,0,[],[]⟩:X1),(⟨0,0,[],[]⟩:Vl)⟩:Zj),v3),R0))
 ((Q5o N d.Hops).bind fun v6=>
 cond (Q6 .neq d.Msg.Type' 12)
 (some (((⟨3,2,[],[],0,false,false,0,[],0,v6,0,(⟨0,false,false,0,0,[],[],false,0,[],false,[],false,[],false,(⟨[],[],0,false,[]⟩:Q1p),false,0,[],[],[]⟩:X8),d.Msg,(⟨0,0,[],[]⟩:Vl)⟩:Zj),0),R0))
 (cond (Q6 .eql d.Msg.Flags.Type' 2)
 ((Ub N (⟨⟩:Xs) d.Msg.TopicID).bind fun v24=>
 cond (!v24.2)
 (some (((⟨0,0,[],[],0,false,false,0,[],0,[],0,(⟨0,false,false,0,0,[],[],false,0,[],false,[],false,[],false,(⟨[],[],0,false,[]⟩:Q1p),false,0,[],[],[]⟩:X8),(⟨0,(⟨false,0,false,false,false,0⟩:Qp),0,0,0,false,0,0,0,[],[]⟩:X1),(⟨0,0,[],[]⟩:Vl)⟩:Zj),11),R0))
 (some (((⟨3,1,v24.1,d.Msg.Data,d.Msg.Flags.QoS,d.Msg.Flags.Retain,d.Msg.Flags.Dup,d.Msg.MsgID,[],d.Msg.Flags.Type',v6,0,(⟨0,false,false,0,0,[],[],false,0,[],false,[],false,[],false,(⟨[],[],0,false,[]⟩:Q1p),false,0,[],[],[]⟩:X8),(⟨0,(⟨false,0,false,false,false,0⟩:Qp),0,0,0,false,0,0,0,[],[]⟩:X1),(⟨0,0,[],[]⟩:Vl)⟩:Zj),0),R0)))
 (cond (Q6 .eql d.Msg.Flags.Type' 1)
 ((Q72 N R0 client d.Msg.TopicID).bind fun v27=>
 cond (Q6 .neq v27.1.2 0)
 (some (((⟨0,0,[],[],0,false,false,0,[],0,[],0,(⟨0,false,false,0,0,[],[],false,0,[],false,[],false,[],false,(⟨[],[],0,false,[]⟩:Q1p),false,0,[],[],[]⟩:X8),(⟨0,(⟨false,0,false,false,false,0⟩:Qp),0,0,0,false,0,0,0,[],[]⟩:X1),(⟨0,0,[],[]⟩:Vl)⟩:Zj),11),v27.2))
 ((Q0s N v27.2 client d.Msg.TopicID).bind fun v30=>
 cond (!(v30.1 == true))
 (some (((⟨0,0,[],[],0,false,false,0,[],0,[],0,(⟨0,false,false,0,0,[],[],false,0,[],false,[],false,[],false,(⟨[],[],0,false,[]⟩:Q1p),false,0,[],[],[]⟩:X8),(⟨0,(⟨false,0,false,false,false,0⟩:Qp),0,0,0,false,0,0,0,[],[]⟩:X1),(⟨0,0,[],[]⟩:Vl)⟩:Zj),11),v30.2))
 (some (((⟨3,1,v27.1.1,d.Msg.Data,d.Msg.Flags.QoS,d.Msg.Flags.Retain,d.Msg.Flags.Dup,d.Msg.MsgID,[],d.Msg.Flags.Type',v6,0,(⟨0,false,false,0,0,[],[],false,0,[],false,[],false,[],false,(⟨[],[],0,false,[]⟩:Q1p),false,0,[],[],[]⟩:X8),(⟨0,(⟨false,0,false,false,false,0⟩:Qp),0,0,0,false,0,0,0,[],[]⟩:X1),(⟨0,0,[],[]⟩:Vl)⟩:Zj),0),v30.2))))
 ((Q72 N R0 client d.Msg.TopicID).bind fun v33=>
 cond (Q6 .neq v33.1.2 0)
 (some (((⟨0,0,[],[],0,false,false,0,[],0,[],0,(⟨0,false,false,0,0,[],[],false,0,[],false,[],false,[],false,(⟨[],[],0,false,[]⟩:Q1p),false,0,[],[],[]⟩:X8),(⟨0,(⟨false,0,false,false,false,0⟩:Qp),0,0,0,false,0,0,0,[],[]⟩:X1),(⟨0,0,[],[]⟩:Vl)⟩:Zj),11),v33.2))
 ((Q0s N v33.2 client d.Msg.TopicID).bind fun v36=>
 cond (!(v36.1 == false))
 (some (((⟨0,0,[],[],0,false,false,0,[],0,[],0,(⟨0,false,false,0,0,[],[],false,0,[],false,[],false,[],false,(⟨[],[],0,false,[]⟩:Q1p),false,0,[],[],[]⟩:X8),(⟨0,(⟨false,0,false,false,false,0⟩:Qp),0,0,0,false,0,0,0,[],[]⟩:X1),(⟨0,0,[],[]⟩:Vl)⟩:Zj),11),v36.2))
 (some (((⟨3,1,v33.1.1,d.Msg.Data,d.Msg.Flags.QoS,d.Msg.Flags.Retain,d.Msg.Flags.Dup,d.Msg.MsgID,[],d.Msg.Flags.Type',v6,0,(⟨0,false,false,0,0,[],[],false,0,[],false,[],false,[],false,(⟨[],[],0,false,[]⟩:Q1p),false,0,[],[],[]⟩:X8),(⟨0,(⟨false,0,false,false,false,0⟩:Qp),0,0,0,false,0,0,0,[],[]⟩:X1),(⟨0,0,[],[]⟩:Vl)⟩:Zj),0),v36.2)))))))
theorem U4 {N} {R0} {client} {d} {r} (h:Ud N R0 client d=some r):Ug Tryz.prog G1 6 R0 [.str client,.agg (Qf.cells d)] (.tuple [.agg (Zj.cells r.1.1),.int .i64 r.1.2]) r.2:=by
 refine Q20 k6 ?_;unfold Ud at h;rw [cX] at h;refine Qa ?_;refine cD h Y5 p0 fun v1 h=>?_;refine cD h Zq (.cons (Ar (f8_ za)) p1) fun v3 h=>?_;apply iU h<;>intro h
 ·obtain rfl:=Qb h;exact ⟨1,rfl,(At (.cons (Ar (f8_ (.cons (.nil _) (.cons (.p _) (.cons (.nil _) (V6 (f4_ (.cons (.nil _) (f2_ (.cons (.nil _) (.cons (.nil _) (.cons (.nil _) (V6 (f2_ (f1_ (.cons (.nil _) .nil)))))))))))))))) p1))⟩
 refine cO h Q3c (fun v6 => .slice 2 4 0 v6.length) (rE rfl <| rN) fun v6 h=>?_;apply iU h<;>intro h
 ·obtain rfl:=Qb h;exact ⟨1,rfl,(At (.cons (Ar (f8_ (.cons (.nil _) (.cons (.p _) (.cons (frz_own (c:=V5.cells) (l:=(v6:List V5)) (fun _=>rfl) rfl (by decide) sd) (V6 (f4_ (.cons (.nil _) (f2_ (.cons (.nil _) (.cons (.nil _) (.cons (.nil _) (V6 (f2_ (f1_ (.cons (.nil _) .nil)))))))))))))))) p1))⟩
 refine Q8s 8 0 rfl rfl rfl rfl rfl ?_;refine Qnx h (fun hc22 h=>?_) (fun hc22 h=>?_)
 ·refine Jv (r := .iface 96 (.agg [])) rfl rfl (Q3 k20 (ifT hc22 rfl)) ?_;refine cP h Q36 (.cons (Ar .nil) p1) fun v24 h=>?_;apply iU h<;>intro h
  ·obtain rfl:=Qb h;exact ⟨1,rfl,(At (.cons (Ar (f8_ (.cons (.nil _) (.cons (.p _) (.cons (.nil _) (V6 (f4_ (.cons (.nil _) (f2_ (.cons (.nil _) (.cons (.nil _) (.cons (.nil _) (V6 (f2_ (f1_ (.cons (.nil _) .nil)))))))))))))))) p1))⟩
  refine Qa ?_;refine Qa ?_;obtain rfl:=Qb h;exact ⟨1,rfl,(At (.cons (Ar (f8_ (.cons (.nil _) (.cons (.p _) (.cons (frz_own (c:=V5.cells) (l:=(v6:List V5)) (fun _=>rfl) rfl (by decide) sd) (V6 (f4_ (.cons (.nil _) (f2_ (.cons (.nil _) (.cons (.nil _) (.cons (.nil _) (V6 (f2_ (f1_ (.cons (.nil _) .nil)))))))))))))))) p1))⟩
 refine Qnx h (fun hc23 h=>?_) (fun hc23 h=>?_)
 ·refine Jv (r := .iface 98 (.agg [.ptr 0 0,iS client])) rfl rfl (Q3 k20 (ifF hc22 (ifT hc23 rfl))) ?_;refine Q3 Qv4 ?_;refine Q3 Qug ?_;refine cRg h Q63 (b:=1) rfl p2 fun v27 h=>?_;apply iU h<;>intro h
  ·obtain rfl:=Qb h;exact ⟨9,rfl,(At (.cons (Ar (f8_ (.cons (.nil _) (.cons (.p _) (.cons (.nil _) (V6 (f4_ (.cons (.nil _) (f2_ (.cons (.nil _) (.cons (.nil _) (.cons (.nil _) (V6 (f2_ (f1_ (.cons (.nil _) .nil)))))))))))))))) p1))⟩
  refine cRg h G4 (b:=9) rfl p2 fun v30 h=>?_;apply iU h<;>intro h
  ·obtain rfl:=Qb h;exact ⟨10,rfl,(At (.cons (Ar (f8_ (.cons (.nil _) (.cons (.p _) (.cons (.nil _) (V6 (f4_ (.cons (.nil _) (f2_ (.cons (.nil _) (.cons (.nil _) (.cons (.nil _) (V6 (f2_ (f1_ (.cons (.nil _) .nil)))))))))))))))) p1))⟩
  refine Qa ?_;refine Qa ?_;obtain rfl:=Qb h;exact ⟨10,rfl,(At (.cons (Ar (f8_ (.cons (.nil _) (.cons (.p _) (.cons (frz_own (c:=V5.cells) (l:=(v6:List V5)) (fun _=>rfl) rfl (by decide) sd) (V6 (f4_ (.cons (.nil _) (f2_ (.cons (.nil _) (.cons (.nil _) (.cons (.nil _) (V6 (f2_ (f1_ (.cons (.nil _) .nil)))))))))))))))) p1))⟩
 refine Jv (r := .iface 99 (.agg [.ptr 0 0,iS client])) rfl rfl (Q3 k20 (ifF hc22 (ifF hc23 rfl))) ?_;refine Q3 Qym ?_;refine Q3 Qug ?_;refine cRg h Q63 (b:=1) rfl p2 fun v33 h=>?_;apply iU h<;>intro h
 ·obtain rfl:=Qb h;exact ⟨9,rfl,(At (.cons (Ar (f8_ (.cons (.nil _) (.cons (.p _) (.cons (.nil _) (V6 (f4_ (.cons (.nil _) (f2_ (.cons (.nil _) (.cons (.nil _) (.cons (.nil _) (V6 (f2_ (f1_ (.cons (.nil _) .nil)))))))))))))))) p1))⟩
 refine cRg h G4 (b:=9) rfl p2 fun v36 h=>?_;apply iU h<;>intro h
 ·obtain rfl:=Qb h;exact ⟨10,rfl,(At (.cons (Ar (f8_ (.cons (.nil _) (.cons (.p _) (.cons (.nil _) (V6 (f4_ (.cons (.nil _) (f2_ (.cons (.nil _) (.cons (.nil _) (.cons (.nil _) (V6 (f2_ (f1_ (.cons (.nil _) .nil)))))))))))))))) p1))⟩
 refine Qa ?_;refine Qa ?_;obtain rfl:=Qb h;exact ⟨10,rfl,(At (.cons (Ar (f8_ (.cons (.nil _) (.cons (.p _) (.cons (frz_own (c:=V5.cells) (l:=(v6:List V5)) (fun _=>rfl) rfl (by decide) sd) (V6 (f4_ (.cons (.nil _) (f2_ (.cons (.nil _) (.cons (.nil _) (.cons (.nil _) (V6 (f2_ (f1_ (.cons (.nil _) .nil)))))))))))))))) p1))⟩
def Zf (_N:Nat):Option (Qf):=
 some (⟨[],(⟨12,(⟨false,0,false,false,false,0⟩:Qp),0,0,0,false,1,0,0,[],[104,105]⟩:X1)⟩:Qf)
theorem Zp {N} {r} (h:Zf N=some r):pU 7 [] (.agg (Qf.cells r)):=by
 refine Q2 k7 ?_;unfold Zf at h;obtain rfl:=Qb h;exact (Ar (.cons (.nil _) (f8_ (f2_ (.cons (.p _) p5)))))
def Q2b (_N:Nat) (l:Zv):Option Bool:=
 cond (Q6 .geq l.MaxPacket 16)
 (cond (Q6 .leq l.MaxPacket 1048576)
 (cond (Q6 .geq l.MaxDepth 0)
 (some (Q6 .leq l.MaxDepth 32))
 (some false))
 (some false))
 (some false)
theorem Q8k {N} {l} {r} (h:Q2b N l=some r):pU 33 [.agg (Zv.cells l)] (.bool r):=by
 refine Q2 k33 ?_;unfold Q2b at h;rw [cX] at h;refine iR h fun h=>?_;refine iR h fun h=>?_;exact iB h
def Q03 (N:Nat) (name:List UInt8):Option (Int×Bool):=
 cond (Q6 .neq (name.length:Int) 2)
 (some (0,false))
 ((Y6 N name).bind fun v2=>
 cond (!v2)
 (some (0,false))
 ((X5 N name).bind fun v5=>
 some ((wrap .i64 v5),true)))
theorem Q32 {N} {name} {r} (h:Q03 N name=some r):pU 96 [.str name] (.tuple [.int .i64 r.1,.bool r.2]):=by
 refine Q2 k96 ?_;unfold Q03 at h;rw [cX] at h;refine iL2 h fun h=>?_;refine cP h Zi p1 fun v2 h=>?_;refine iL2 h fun h=>?_;refine cP h Yk p1 fun v5 h=>?_;obtain rfl:=Qb h;exact u2
def U9 (_N:Nat):Option (Zv):=
 some (⟨1048576,32⟩:Zv)
theorem Q0d {N} {r} (h:U9 N=some r):pU 97 [] (.agg (Zv.cells r)):=by
 refine Q2 k97 ?_;unfold U9 at h;obtain rfl:=Qb h;exact q2
def Wq (_N:Nat) (n_0:Int) (low:Int) (high:Int):Option Bool:=
 cond (Q6 .geq n_0 low)
 (some (Q6 .leq n_0 high))
 (some false)
theorem Vs {N} {n_0} {low} {high} {r} (h:Wq N n_0 low high=some r):pU 61 [.int .i64 n_0,.int .i64 low,.int .i64 high] (.bool r):=by
 refine Q2 k61 ?_;unfold Wq at h;rw [cX] at h;exact iB h
end
end
end Go.Av
