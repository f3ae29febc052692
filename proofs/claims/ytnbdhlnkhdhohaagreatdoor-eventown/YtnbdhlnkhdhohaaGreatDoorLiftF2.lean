/- Part of the proof of EventOwn: for every input the law returns true; no condition. -/
import Derived.Test.YtnbdhlnkhdhohaaGreatDoorLiftF1
namespace Go.Av
noncomputable section
open Go.Proofs
set_option maxRecDepth 100000
set_option maxHeartbeats 4000000
attribute [local irreducible] Vp Xe Q79 Qc9 Qpg Qpp Qgl
section
def W7 (N : Nat) (c : Q4) : Nat → Option ((Unit) × Q4)
 | 0 => none
 | n + 1 =>
  some ((), c)
def Yc (N : Nat) (c : Q4) : Option ((Unit) × Q4) :=
 cond (Q3 .eql c.m.Type' 0)
 ((Yf N c).bind fun v2 =>
 (Yx N v2.2).bind fun v4 =>
 some ((), v4.2))
 (cond (Q3 .eql c.m.Type' 1)
 ((Xl N c).bind fun v7 =>
 some ((), v7.2))
 (cond (Q3 .eql c.m.Type' 2)
 ((Yf N c).bind fun v10 =>
 (Z2 N v10.2).bind fun v12 =>
 some ((), v12.2))
 (cond (Q3 .eql c.m.Type' 4)
 ((Z7 N c).bind fun v15 =>
 (Yp N v15.2).bind fun v17 =>
 (Yx N v17.2).bind fun v19 =>
 (Z2 N v19.2).bind fun v21 =>
 some ((), v21.2))
 (cond (Q3 .eql c.m.Type' 5)
 ((Zo N c).bind fun v24 =>
 some ((), v24.2))
 (cond (Q3 .eql c.m.Type' 27)
 ((Zo N c).bind fun v27 =>
 some ((), v27.2))
 (cond (Q3 .eql c.m.Type' 29)
 ((Zo N c).bind fun v30 =>
 some ((), v30.2))
 (cond (Q3 .eql c.m.Type' 7)
 ((Wl N c).bind fun v33 =>
 some ((), v33.2))
 (cond (Q3 .eql c.m.Type' 26)
 ((Wl N c).bind fun v36 =>
 some ((), v36.2))
 (cond (Q3 .eql c.m.Type' 9)
 ((Yv N c).bind fun v39 =>
 some ((), v39.2))
 (cond (Q3 .eql c.m.Type' 28)
 ((Yv N c).bind fun v42 =>
 some ((), v42.2))
 (cond (Q3 .eql c.m.Type' 10)
 ((Y8 N c).bind fun v45 =>
 (Qt N v45.2).bind fun v47 =>
 (Z2 N v47.2).bind fun v49 =>
 some ((), v49.2))
 (cond (Q3 .eql c.m.Type' 11)
 ((Y8 N c).bind fun v52 =>
 (Qt N v52.2).bind fun v54 =>
 (Zo N v54.2).bind fun v56 =>
 some ((), v56.2))
 (cond (Q3 .eql c.m.Type' 13)
 ((Y8 N c).bind fun v59 =>
 (Qt N v59.2).bind fun v61 =>
 (Zo N v61.2).bind fun v63 =>
 some ((), v63.2))
 (cond (Q3 .eql c.m.Type' 12)
 ((Z7 N c).bind fun v66 =>
 (Y8 N v66.2).bind fun v68 =>
 (Qt N v68.2).bind fun v70 =>
 (Yv N v70.2).bind fun v72 =>
 some ((), v72.2))
 (cond (Q3 .eql c.m.Type' 14)
 ((Qt N c).bind fun v75 =>
 some ((), v75.2))
 (cond (Q3 .eql c.m.Type' 15)
 ((Qt N c).bind fun v78 =>
 some ((), v78.2))
 (cond (Q3 .eql c.m.Type' 16)
 ((Qt N c).bind fun v81 =>
 some ((), v81.2))
 (cond (Q3 .eql c.m.Type' 21)
 ((Qt N c).bind fun v84 =>
 some ((), v84.2))
 (cond (Q3 .eql c.m.Type' 18)
 ((Z7 N c).bind fun v87 =>
 (Qt N v87.2).bind fun v89 =>
 (W0 N v89.2).bind fun v91 =>
 some ((), v91.2))
 (cond (Q3 .eql c.m.Type' 20)
 ((Z7 N c).bind fun v94 =>
 (Qt N v94.2).bind fun v96 =>
 (W0 N v96.2).bind fun v98 =>
 some ((), v98.2))
 (cond (Q3 .eql c.m.Type' 19)
 ((Z7 N c).bind fun v101 =>
 (Y8 N v101.2).bind fun v103 =>
 (Qt N v103.2).bind fun v105 =>
 (Zo N v105.2).bind fun v107 =>
 some ((), v107.2))
 (cond (Q3 .eql c.m.Type' 22)
 ((Z2 N c).bind fun v110 =>
 some ((), v110.2))
 (cond (Q3 .eql c.m.Type' 24)
 ((Xu N c).bind fun v113 =>
 some ((), v113.2))
 (W7 N c N))))))))))))))))))))))))
theorem Vu {N} {c} {r} (h : Yc N c = some r) : gU 170 (.ptr 0 0 :: []) (.cells (.p .nilPtr :: .p (.int .i64 c.do') :: Ji c.m (.slice 1 1 0 c.out.length :: .p (.bool c.bad) :: [])) :: .cells (Zz (cI .u8) c.out) :: []) (.tuple []) (.cells (.p .nilPtr :: .p (.int .i64 r.2.do') :: Ji r.2.m (.slice 1 2 0 r.2.out.length :: .p (.bool r.2.bad) :: [])) :: .dead :: .cells (Zz (cI .u8) r.2.out) :: []) := by
 refine X5 Zdb (Lm rfl) ?_;unfold Yc at h;rw [cX] at h;refine Qg Zd3 ?_;apply iU h <;> intro h
 ·refine Z9 4 ?_;refine dT ?_;refine cG h Q25 fun v2 h => ?_;refine ⟨rho [0, 1], (.cells (.p .nilPtr :: iI v2.2.do' :: Zr v2.2.m (.slice 1 3 0 v2.2.out.length :: .p (.bool v2.2.bad) :: [])) :: .dead :: .cells (.func (.func 269) [.ptr 0 0] [] :: .func (.func 270) [.ptr 0 0] [] :: []) :: .cells (Zz (cI .u8) v2.2.out) :: []), .tuple [], gcQ, ?_⟩;refine dT ?_;refine cG h Q0q fun v4 h => ?_;refine ⟨rho [0, 3], (.cells (.p .nilPtr :: iI v4.2.do' :: Zr v4.2.m (.slice 1 4 0 v4.2.out.length :: .p (.bool v4.2.bad) :: [])) :: .dead :: .cells (.func (.func 269) [.ptr 0 0] [] :: .func (.func 270) [.ptr 0 0] [] :: []) :: .dead :: .cells (Zz (cI .u8) v4.2.out) :: []), .tuple [], gcQ, ?_⟩;refine dF ?_;obtain rfl := Qb h;show Exists _;exact ⟨(rho [0, 1, 4]), Zc⟩
 apply iU h <;> intro h
 ·refine Z9 3 ?_;refine dT ?_;refine cG h Q7d fun v7 h => ?_;refine ⟨rho [0, 1], (.cells (.p .nilPtr :: iI v7.2.do' :: Zr v7.2.m (.slice 1 3 0 v7.2.out.length :: .p (.bool v7.2.bad) :: [])) :: .dead :: .cells (.func (.func 271) [.ptr 0 0] [] :: []) :: .cells (Zz (cI .u8) v7.2.out) :: []), .tuple [], gcQ, ?_⟩;refine dF ?_;obtain rfl := Qb h;show Exists _;exact ⟨(rho [0, 1, 3]), Zc⟩
 apply iU h <;> intro h
 ·refine Z9 4 ?_;refine dT ?_;refine cG h Q25 fun v10 h => ?_;refine ⟨rho [0, 1], (.cells (.p .nilPtr :: iI v10.2.do' :: Zr v10.2.m (.slice 1 3 0 v10.2.out.length :: .p (.bool v10.2.bad) :: [])) :: .dead :: .cells (.func (.func 269) [.ptr 0 0] [] :: .func (.func 272) [.ptr 0 0] [] :: []) :: .cells (Zz (cI .u8) v10.2.out) :: []), .tuple [], gcQ, ?_⟩;refine dT ?_;refine cG h Y2 fun v12 h => ?_;refine ⟨rho [0, 3], (.cells (.p .nilPtr :: iI v12.2.do' :: Zr v12.2.m (.slice 1 4 0 v12.2.out.length :: .p (.bool v12.2.bad) :: [])) :: .dead :: .cells (.func (.func 269) [.ptr 0 0] [] :: .func (.func 272) [.ptr 0 0] [] :: []) :: .dead :: .cells (Zz (cI .u8) v12.2.out) :: []), .tuple [], gcQ, ?_⟩;refine dF ?_;obtain rfl := Qb h;show Exists _;exact ⟨(rho [0, 1, 4]), Zc⟩
 apply iU h <;> intro h
 ·refine Z9 6 ?_;refine dT ?_;refine cG h Yq fun v15 h => ?_;refine ⟨rho [0, 1], (.cells (.p .nilPtr :: iI v15.2.do' :: Zr v15.2.m (.slice 1 3 0 v15.2.out.length :: .p (.bool v15.2.bad) :: [])) :: .dead :: .cells (.func (.func 273) [.ptr 0 0] [] :: .func (.func 274) [.ptr 0 0] [] :: .func (.func 270) [.ptr 0 0] [] :: .func (.func 272) [.ptr 0 0] [] :: []) :: .cells (Zz (cI .u8) v15.2.out) :: []), .tuple [], gcQ, ?_⟩;refine dT ?_;refine cG h Q6c fun v17 h => ?_;refine ⟨rho [0, 3], (.cells (.p .nilPtr :: iI v17.2.do' :: Zr v17.2.m (.slice 1 4 0 v17.2.out.length :: .p (.bool v17.2.bad) :: [])) :: .dead :: .cells (.func (.func 273) [.ptr 0 0] [] :: .func (.func 274) [.ptr 0 0] [] :: .func (.func 270) [.ptr 0 0] [] :: .func (.func 272) [.ptr 0 0] [] :: []) :: .dead :: .cells (Zz (cI .u8) v17.2.out) :: []), .tuple [], gcQ, ?_⟩;refine dT ?_;refine cG h Q0q fun v19 h => ?_;refine ⟨rho [0, 4], (.cells (.p .nilPtr :: iI v19.2.do' :: Zr v19.2.m (.slice 1 5 0 v19.2.out.length :: .p (.bool v19.2.bad) :: [])) :: .dead :: .cells (.func (.func 273) [.ptr 0 0] [] :: .func (.func 274) [.ptr 0 0] [] :: .func (.func 270) [.ptr 0 0] [] :: .func (.func 272) [.ptr 0 0] [] :: []) :: .dead :: .dead :: .cells (Zz (cI .u8) v19.2.out) :: []), .tuple [], gcQ, ?_⟩;refine dT ?_;refine cG h Y2 fun v21 h => ?_;refine ⟨rho [0, 5], (.cells (.p .nilPtr :: iI v21.2.do' :: Zr v21.2.m (.slice 1 6 0 v21.2.out.length :: .p (.bool v21.2.bad) :: [])) :: .dead :: .cells (.func (.func 273) [.ptr 0 0] [] :: .func (.func 274) [.ptr 0 0] [] :: .func (.func 270) [.ptr 0 0] [] :: .func (.func 272) [.ptr 0 0] [] :: []) :: .dead :: .dead :: .dead :: .cells (Zz (cI .u8) v21.2.out) :: []), .tuple [], gcQ, ?_⟩;refine dF ?_;obtain rfl := Qb h;show Exists _;exact ⟨(rho [0, 1, 6]), Zc⟩
 refine ifO h (fun hc23 h => ?_) (fun hc23 h => ?_)
 ·refine ifT hc23 ?_;refine Z9 3 ?_;refine dT ?_;refine cG h We fun v24 h => ?_;refine ⟨rho [0, 1], (.cells (.p .nilPtr :: iI v24.2.do' :: Zr v24.2.m (.slice 1 3 0 v24.2.out.length :: .p (.bool v24.2.bad) :: [])) :: .dead :: .cells (.func (.func 275) [.ptr 0 0] [] :: []) :: .cells (Zz (cI .u8) v24.2.out) :: []), .tuple [], gcQ, ?_⟩;refine dF ?_;obtain rfl := Qb h;show Exists _;exact ⟨(rho [0, 1, 3]), Zc⟩
 refine ifO h (fun hc26 h => ?_) (fun hc26 h => ?_)
 ·refine ifT hc26 ?_;refine Z9 3 ?_;refine dT ?_;refine cG h We fun v27 h => ?_;refine ⟨rho [0, 1], (.cells (.p .nilPtr :: iI v27.2.do' :: Zr v27.2.m (.slice 1 3 0 v27.2.out.length :: .p (.bool v27.2.bad) :: [])) :: .dead :: .cells (.func (.func 275) [.ptr 0 0] [] :: []) :: .cells (Zz (cI .u8) v27.2.out) :: []), .tuple [], gcQ, ?_⟩;refine dF ?_;obtain rfl := Qb h;show Exists _;exact ⟨(rho [0, 1, 3]), Zc⟩
 apply iU h <;> intro h
 ·refine Z9 3 ?_;refine dT ?_;refine cG h We fun v30 h => ?_;refine ⟨rho [0, 1], (.cells (.p .nilPtr :: iI v30.2.do' :: Zr v30.2.m (.slice 1 3 0 v30.2.out.length :: .p (.bool v30.2.bad) :: [])) :: .dead :: .cells (.func (.func 275) [.ptr 0 0] [] :: []) :: .cells (Zz (cI .u8) v30.2.out) :: []), .tuple [], gcQ, ?_⟩;refine dF ?_;obtain rfl := Qb h;show Exists _;exact ⟨(rho [0, 1, 3]), Zc⟩
 refine ifO h (fun hc32 h => ?_) (fun hc32 h => ?_)
 ·refine ifT hc32 ?_;refine Z9 3 ?_;refine dT ?_;refine cG h Q40 fun v33 h => ?_;refine ⟨rho [0, 1], (.cells (.p .nilPtr :: iI v33.2.do' :: Zr v33.2.m (.slice 1 3 0 v33.2.out.length :: .p (.bool v33.2.bad) :: [])) :: .dead :: .cells (.func (.func 276) [.ptr 0 0] [] :: []) :: .cells (Zz (cI .u8) v33.2.out) :: []), .tuple [], gcQ, ?_⟩;refine dF ?_;obtain rfl := Qb h;show Exists _;exact ⟨(rho [0, 1, 3]), Zc⟩
 apply iU h <;> intro h
 ·refine Z9 3 ?_;refine dT ?_;refine cG h Q40 fun v36 h => ?_;refine ⟨rho [0, 1], (.cells (.p .nilPtr :: iI v36.2.do' :: Zr v36.2.m (.slice 1 3 0 v36.2.out.length :: .p (.bool v36.2.bad) :: [])) :: .dead :: .cells (.func (.func 276) [.ptr 0 0] [] :: []) :: .cells (Zz (cI .u8) v36.2.out) :: []), .tuple [], gcQ, ?_⟩;refine dF ?_;obtain rfl := Qb h;show Exists _;exact ⟨(rho [0, 1, 3]), Zc⟩
 refine ifO h (fun hc38 h => ?_) (fun hc38 h => ?_)
 ·refine ifT hc38 ?_;refine Z9 3 ?_;refine dT ?_;refine cG h Q03 fun v39 h => ?_;refine ⟨rho [0, 1], (.cells (.p .nilPtr :: iI v39.2.do' :: Zr v39.2.m (.slice 1 3 0 v39.2.out.length :: .p (.bool v39.2.bad) :: [])) :: .dead :: .cells (.func (.func 277) [.ptr 0 0] [] :: []) :: .cells (Zz (cI .u8) v39.2.out) :: []), .tuple [], gcQ, ?_⟩;refine dF ?_;obtain rfl := Qb h;show Exists _;exact ⟨(rho [0, 1, 3]), Zc⟩
 apply iU h <;> intro h
 ·refine Z9 3 ?_;refine dT ?_;refine cG h Q03 fun v42 h => ?_;refine ⟨rho [0, 1], (.cells (.p .nilPtr :: iI v42.2.do' :: Zr v42.2.m (.slice 1 3 0 v42.2.out.length :: .p (.bool v42.2.bad) :: [])) :: .dead :: .cells (.func (.func 277) [.ptr 0 0] [] :: []) :: .cells (Zz (cI .u8) v42.2.out) :: []), .tuple [], gcQ, ?_⟩;refine dF ?_;obtain rfl := Qb h;show Exists _;exact ⟨(rho [0, 1, 3]), Zc⟩
 apply iU h <;> intro h
 ·refine Z9 5 ?_;refine dT ?_;refine cG h V4 fun v45 h => ?_;refine ⟨rho [0, 1], (.cells (.p .nilPtr :: iI v45.2.do' :: Zr v45.2.m (.slice 1 3 0 v45.2.out.length :: .p (.bool v45.2.bad) :: [])) :: .dead :: .cells (.func (.func 278) [.ptr 0 0] [] :: .func (.func 279) [.ptr 0 0] [] :: .func (.func 272) [.ptr 0 0] [] :: []) :: .cells (Zz (cI .u8) v45.2.out) :: []), .tuple [], gcQ, ?_⟩;refine dT ?_;refine cG h Zj fun v47 h => ?_;refine ⟨rho [0, 3], (.cells (.p .nilPtr :: iI v47.2.do' :: Zr v47.2.m (.slice 1 4 0 v47.2.out.length :: .p (.bool v47.2.bad) :: [])) :: .dead :: .cells (.func (.func 278) [.ptr 0 0] [] :: .func (.func 279) [.ptr 0 0] [] :: .func (.func 272) [.ptr 0 0] [] :: []) :: .dead :: .cells (Zz (cI .u8) v47.2.out) :: []), .tuple [], gcQ, ?_⟩;refine dT ?_;refine cG h Y2 fun v49 h => ?_;refine ⟨rho [0, 4], (.cells (.p .nilPtr :: iI v49.2.do' :: Zr v49.2.m (.slice 1 5 0 v49.2.out.length :: .p (.bool v49.2.bad) :: [])) :: .dead :: .cells (.func (.func 278) [.ptr 0 0] [] :: .func (.func 279) [.ptr 0 0] [] :: .func (.func 272) [.ptr 0 0] [] :: []) :: .dead :: .dead :: .cells (Zz (cI .u8) v49.2.out) :: []), .tuple [], gcQ, ?_⟩;refine dF ?_;obtain rfl := Qb h;show Exists _;exact ⟨(rho [0, 1, 5]), Zc⟩
 refine ifO h (fun hc51 h => ?_) (fun hc51 h => ?_)
 ·refine ifT hc51 ?_;refine Z9 5 ?_;refine dT ?_;refine cG h V4 fun v52 h => ?_;refine ⟨rho [0, 1], (.cells (.p .nilPtr :: iI v52.2.do' :: Zr v52.2.m (.slice 1 3 0 v52.2.out.length :: .p (.bool v52.2.bad) :: [])) :: .dead :: .cells (.func (.func 278) [.ptr 0 0] [] :: .func (.func 279) [.ptr 0 0] [] :: .func (.func 275) [.ptr 0 0] [] :: []) :: .cells (Zz (cI .u8) v52.2.out) :: []), .tuple [], gcQ, ?_⟩;refine dT ?_;refine cG h Zj fun v54 h => ?_;refine ⟨rho [0, 3], (.cells (.p .nilPtr :: iI v54.2.do' :: Zr v54.2.m (.slice 1 4 0 v54.2.out.length :: .p (.bool v54.2.bad) :: [])) :: .dead :: .cells (.func (.func 278) [.ptr 0 0] [] :: .func (.func 279) [.ptr 0 0] [] :: .func (.func 275) [.ptr 0 0] [] :: []) :: .dead :: .cells (Zz (cI .u8) v54.2.out) :: []), .tuple [], gcQ, ?_⟩;refine dT ?_;refine cG h We fun v56 h => ?_;refine ⟨rho [0, 4], (.cells (.p .nilPtr :: iI v56.2.do' :: Zr v56.2.m (.slice 1 5 0 v56.2.out.length :: .p (.bool v56.2.bad) :: [])) :: .dead :: .cells (.func (.func 278) [.ptr 0 0] [] :: .func (.func 279) [.ptr 0 0] [] :: .func (.func 275) [.ptr 0 0] [] :: []) :: .dead :: .dead :: .cells (Zz (cI .u8) v56.2.out) :: []), .tuple [], gcQ, ?_⟩;refine dF ?_;obtain rfl := Qb h;show Exists _;exact ⟨(rho [0, 1, 5]), Zc⟩
 apply iU h <;> intro h
 ·refine Z9 5 ?_;refine dT ?_;refine cG h V4 fun v59 h => ?_;refine ⟨rho [0, 1], (.cells (.p .nilPtr :: iI v59.2.do' :: Zr v59.2.m (.slice 1 3 0 v59.2.out.length :: .p (.bool v59.2.bad) :: [])) :: .dead :: .cells (.func (.func 278) [.ptr 0 0] [] :: .func (.func 279) [.ptr 0 0] [] :: .func (.func 275) [.ptr 0 0] [] :: []) :: .cells (Zz (cI .u8) v59.2.out) :: []), .tuple [], gcQ, ?_⟩;refine dT ?_;refine cG h Zj fun v61 h => ?_;refine ⟨rho [0, 3], (.cells (.p .nilPtr :: iI v61.2.do' :: Zr v61.2.m (.slice 1 4 0 v61.2.out.length :: .p (.bool v61.2.bad) :: [])) :: .dead :: .cells (.func (.func 278) [.ptr 0 0] [] :: .func (.func 279) [.ptr 0 0] [] :: .func (.func 275) [.ptr 0 0] [] :: []) :: .dead :: .cells (Zz (cI .u8) v61.2.out) :: []), .tuple [], gcQ, ?_⟩;refine dT ?_;refine cG h We fun v63 h => ?_;refine ⟨rho [0, 4], (.cells (.p .nilPtr :: iI v63.2.do' :: Zr v63.2.m (.slice 1 5 0 v63.2.out.length :: .p (.bool v63.2.bad) :: [])) :: .dead :: .cells (.func (.func 278) [.ptr 0 0] [] :: .func (.func 279) [.ptr 0 0] [] :: .func (.func 275) [.ptr 0 0] [] :: []) :: .dead :: .dead :: .cells (Zz (cI .u8) v63.2.out) :: []), .tuple [], gcQ, ?_⟩;refine dF ?_;obtain rfl := Qb h;show Exists _;exact ⟨(rho [0, 1, 5]), Zc⟩
 apply iU h <;> intro h
 ·refine Z9 6 ?_;refine dT ?_;refine cG h Yq fun v66 h => ?_;refine ⟨rho [0, 1], (.cells (.p .nilPtr :: iI v66.2.do' :: Zr v66.2.m (.slice 1 3 0 v66.2.out.length :: .p (.bool v66.2.bad) :: [])) :: .dead :: .cells (.func (.func 273) [.ptr 0 0] [] :: .func (.func 278) [.ptr 0 0] [] :: .func (.func 279) [.ptr 0 0] [] :: .func (.func 277) [.ptr 0 0] [] :: []) :: .cells (Zz (cI .u8) v66.2.out) :: []), .tuple [], gcQ, ?_⟩;refine dT ?_;refine cG h V4 fun v68 h => ?_;refine ⟨rho [0, 3], (.cells (.p .nilPtr :: iI v68.2.do' :: Zr v68.2.m (.slice 1 4 0 v68.2.out.length :: .p (.bool v68.2.bad) :: [])) :: .dead :: .cells (.func (.func 273) [.ptr 0 0] [] :: .func (.func 278) [.ptr 0 0] [] :: .func (.func 279) [.ptr 0 0] [] :: .func (.func 277) [.ptr 0 0] [] :: []) :: .dead :: .cells (Zz (cI .u8) v68.2.out) :: []), .tuple [], gcQ, ?_⟩;refine dT ?_;refine cG h Zj fun v70 h => ?_;refine ⟨rho [0, 4], (.cells (.p .nilPtr :: iI v70.2.do' :: Zr v70.2.m (.slice 1 5 0 v70.2.out.length :: .p (.bool v70.2.bad) :: [])) :: .dead :: .cells (.func (.func 273) [.ptr 0 0] [] :: .func (.func 278) [.ptr 0 0] [] :: .func (.func 279) [.ptr 0 0] [] :: .func (.func 277) [.ptr 0 0] [] :: []) :: .dead :: .dead :: .cells (Zz (cI .u8) v70.2.out) :: []), .tuple [], gcQ, ?_⟩;refine dT ?_;refine cG h Q03 fun v72 h => ?_;refine ⟨rho [0, 5], (.cells (.p .nilPtr :: iI v72.2.do' :: Zr v72.2.m (.slice 1 6 0 v72.2.out.length :: .p (.bool v72.2.bad) :: [])) :: .dead :: .cells (.func (.func 273) [.ptr 0 0] [] :: .func (.func 278) [.ptr 0 0] [] :: .func (.func 279) [.ptr 0 0] [] :: .func (.func 277) [.ptr 0 0] [] :: []) :: .dead :: .dead :: .dead :: .cells (Zz (cI .u8) v72.2.out) :: []), .tuple [], gcQ, ?_⟩;refine dF ?_;obtain rfl := Qb h;show Exists _;exact ⟨(rho [0, 1, 6]), Zc⟩
 refine ifO h (fun hc74 h => ?_) (fun hc74 h => ?_)
 ·refine ifT hc74 ?_;refine Z9 3 ?_;refine dT ?_;refine cG h Zj fun v75 h => ?_;refine ⟨rho [0, 1], (.cells (.p .nilPtr :: iI v75.2.do' :: Zr v75.2.m (.slice 1 3 0 v75.2.out.length :: .p (.bool v75.2.bad) :: [])) :: .dead :: .cells (.func (.func 279) [.ptr 0 0] [] :: []) :: .cells (Zz (cI .u8) v75.2.out) :: []), .tuple [], gcQ, ?_⟩;refine dF ?_;obtain rfl := Qb h;show Exists _;exact ⟨(rho [0, 1, 3]), Zc⟩
 refine ifO h (fun hc77 h => ?_) (fun hc77 h => ?_)
 ·refine ifT hc77 ?_;refine Z9 3 ?_;refine dT ?_;refine cG h Zj fun v78 h => ?_;refine ⟨rho [0, 1], (.cells (.p .nilPtr :: iI v78.2.do' :: Zr v78.2.m (.slice 1 3 0 v78.2.out.length :: .p (.bool v78.2.bad) :: [])) :: .dead :: .cells (.func (.func 279) [.ptr 0 0] [] :: []) :: .cells (Zz (cI .u8) v78.2.out) :: []), .tuple [], gcQ, ?_⟩;refine dF ?_;obtain rfl := Qb h;show Exists _;exact ⟨(rho [0, 1, 3]), Zc⟩
 refine ifO h (fun hc80 h => ?_) (fun hc80 h => ?_)
 ·refine ifT hc80 ?_;refine Z9 3 ?_;refine dT ?_;refine cG h Zj fun v81 h => ?_;refine ⟨rho [0, 1], (.cells (.p .nilPtr :: iI v81.2.do' :: Zr v81.2.m (.slice 1 3 0 v81.2.out.length :: .p (.bool v81.2.bad) :: [])) :: .dead :: .cells (.func (.func 279) [.ptr 0 0] [] :: []) :: .cells (Zz (cI .u8) v81.2.out) :: []), .tuple [], gcQ, ?_⟩;refine dF ?_;obtain rfl := Qb h;show Exists _;exact ⟨(rho [0, 1, 3]), Zc⟩
 apply iU h <;> intro h
 ·refine Z9 3 ?_;refine dT ?_;refine cG h Zj fun v84 h => ?_;refine ⟨rho [0, 1], (.cells (.p .nilPtr :: iI v84.2.do' :: Zr v84.2.m (.slice 1 3 0 v84.2.out.length :: .p (.bool v84.2.bad) :: [])) :: .dead :: .cells (.func (.func 279) [.ptr 0 0] [] :: []) :: .cells (Zz (cI .u8) v84.2.out) :: []), .tuple [], gcQ, ?_⟩;refine dF ?_;obtain rfl := Qb h;show Exists _;exact ⟨(rho [0, 1, 3]), Zc⟩
 refine ifO h (fun hc86 h => ?_) (fun hc86 h => ?_)
 ·refine ifT hc86 ?_;refine Z9 5 ?_;refine dT ?_;refine cG h Yq fun v87 h => ?_;refine ⟨rho [0, 1], (.cells (.p .nilPtr :: iI v87.2.do' :: Zr v87.2.m (.slice 1 3 0 v87.2.out.length :: .p (.bool v87.2.bad) :: [])) :: .dead :: .cells (.func (.func 273) [.ptr 0 0] [] :: .func (.func 279) [.ptr 0 0] [] :: .func (.func 280) [.ptr 0 0] [] :: []) :: .cells (Zz (cI .u8) v87.2.out) :: []), .tuple [], gcQ, ?_⟩;refine dT ?_;refine cG h Zj fun v89 h => ?_;refine ⟨rho [0, 3], (.cells (.p .nilPtr :: iI v89.2.do' :: Zr v89.2.m (.slice 1 4 0 v89.2.out.length :: .p (.bool v89.2.bad) :: [])) :: .dead :: .cells (.func (.func 273) [.ptr 0 0] [] :: .func (.func 279) [.ptr 0 0] [] :: .func (.func 280) [.ptr 0 0] [] :: []) :: .dead :: .cells (Zz (cI .u8) v89.2.out) :: []), .tuple [], gcQ, ?_⟩;refine dT ?_;refine cG h Q3b fun v91 h => ?_;refine ⟨rho [0, 4], (.cells (.p .nilPtr :: iI v91.2.do' :: Zr v91.2.m (.slice 1 5 0 v91.2.out.length :: .p (.bool v91.2.bad) :: [])) :: .dead :: .cells (.func (.func 273) [.ptr 0 0] [] :: .func (.func 279) [.ptr 0 0] [] :: .func (.func 280) [.ptr 0 0] [] :: []) :: .dead :: .dead :: .cells (Zz (cI .u8) v91.2.out) :: []), .tuple [], gcQ, ?_⟩;refine dF ?_;obtain rfl := Qb h;show Exists _;exact ⟨(rho [0, 1, 5]), Zc⟩
 apply iU h <;> intro h
 ·refine Z9 5 ?_;refine dT ?_;refine cG h Yq fun v94 h => ?_;refine ⟨rho [0, 1], (.cells (.p .nilPtr :: iI v94.2.do' :: Zr v94.2.m (.slice 1 3 0 v94.2.out.length :: .p (.bool v94.2.bad) :: [])) :: .dead :: .cells (.func (.func 273) [.ptr 0 0] [] :: .func (.func 279) [.ptr 0 0] [] :: .func (.func 280) [.ptr 0 0] [] :: []) :: .cells (Zz (cI .u8) v94.2.out) :: []), .tuple [], gcQ, ?_⟩;refine dT ?_;refine cG h Zj fun v96 h => ?_;refine ⟨rho [0, 3], (.cells (.p .nilPtr :: iI v96.2.do' :: Zr v96.2.m (.slice 1 4 0 v96.2.out.length :: .p (.bool v96.2.bad) :: [])) :: .dead :: .cells (.func (.func 273) [.ptr 0 0] [] :: .func (.func 279) [.ptr 0 0] [] :: .func (.func 280) [.ptr 0 0] [] :: []) :: .dead :: .cells (Zz (cI .u8) v96.2.out) :: []), .tuple [], gcQ, ?_⟩;refine dT ?_;refine cG h Q3b fun v98 h => ?_;refine ⟨rho [0, 4], (.cells (.p .nilPtr :: iI v98.2.do' :: Zr v98.2.m (.slice 1 5 0 v98.2.out.length :: .p (.bool v98.2.bad) :: [])) :: .dead :: .cells (.func (.func 273) [.ptr 0 0] [] :: .func (.func 279) [.ptr 0 0] [] :: .func (.func 280) [.ptr 0 0] [] :: []) :: .dead :: .dead :: .cells (Zz (cI .u8) v98.2.out) :: []), .tuple [], gcQ, ?_⟩;refine dF ?_;obtain rfl := Qb h;show Exists _;exact ⟨(rho [0, 1, 5]), Zc⟩
 apply iU h <;> intro h
 ·refine Z9 6 ?_;refine dT ?_;refine cG h Yq fun v101 h => ?_;refine ⟨rho [0, 1], (.cells (.p .nilPtr :: iI v101.2.do' :: Zr v101.2.m (.slice 1 3 0 v101.2.out.length :: .p (.bool v101.2.bad) :: [])) :: .dead :: .cells (.func (.func 273) [.ptr 0 0] [] :: .func (.func 278) [.ptr 0 0] [] :: .func (.func 279) [.ptr 0 0] [] :: .func (.func 275) [.ptr 0 0] [] :: []) :: .cells (Zz (cI .u8) v101.2.out) :: []), .tuple [], gcQ, ?_⟩;refine dT ?_;refine cG h V4 fun v103 h => ?_;refine ⟨rho [0, 3], (.cells (.p .nilPtr :: iI v103.2.do' :: Zr v103.2.m (.slice 1 4 0 v103.2.out.length :: .p (.bool v103.2.bad) :: [])) :: .dead :: .cells (.func (.func 273) [.ptr 0 0] [] :: .func (.func 278) [.ptr 0 0] [] :: .func (.func 279) [.ptr 0 0] [] :: .func (.func 275) [.ptr 0 0] [] :: []) :: .dead :: .cells (Zz (cI .u8) v103.2.out) :: []), .tuple [], gcQ, ?_⟩;refine dT ?_;refine cG h Zj fun v105 h => ?_;refine ⟨rho [0, 4], (.cells (.p .nilPtr :: iI v105.2.do' :: Zr v105.2.m (.slice 1 5 0 v105.2.out.length :: .p (.bool v105.2.bad) :: [])) :: .dead :: .cells (.func (.func 273) [.ptr 0 0] [] :: .func (.func 278) [.ptr 0 0] [] :: .func (.func 279) [.ptr 0 0] [] :: .func (.func 275) [.ptr 0 0] [] :: []) :: .dead :: .dead :: .cells (Zz (cI .u8) v105.2.out) :: []), .tuple [], gcQ, ?_⟩;refine dT ?_;refine cG h We fun v107 h => ?_;refine ⟨rho [0, 5], (.cells (.p .nilPtr :: iI v107.2.do' :: Zr v107.2.m (.slice 1 6 0 v107.2.out.length :: .p (.bool v107.2.bad) :: [])) :: .dead :: .cells (.func (.func 273) [.ptr 0 0] [] :: .func (.func 278) [.ptr 0 0] [] :: .func (.func 279) [.ptr 0 0] [] :: .func (.func 275) [.ptr 0 0] [] :: []) :: .dead :: .dead :: .dead :: .cells (Zz (cI .u8) v107.2.out) :: []), .tuple [], gcQ, ?_⟩;refine dF ?_;obtain rfl := Qb h;show Exists _;exact ⟨(rho [0, 1, 6]), Zc⟩
 apply iU h <;> intro h
 ·refine Z9 3 ?_;refine dT ?_;refine cG h Y2 fun v110 h => ?_;refine ⟨rho [0, 1], (.cells (.p .nilPtr :: iI v110.2.do' :: Zr v110.2.m (.slice 1 3 0 v110.2.out.length :: .p (.bool v110.2.bad) :: [])) :: .dead :: .cells (.func (.func 272) [.ptr 0 0] [] :: []) :: .cells (Zz (cI .u8) v110.2.out) :: []), .tuple [], gcQ, ?_⟩;refine dF ?_;obtain rfl := Qb h;show Exists _;exact ⟨(rho [0, 1, 3]), Zc⟩
 apply iU h <;> intro h
 ·refine Z9 3 ?_;refine dT ?_;refine cG h Q6g fun v113 h => ?_;refine ⟨rho [0, 1], (.cells (.p .nilPtr :: iI v113.2.do' :: Zr v113.2.m (.slice 1 3 0 v113.2.out.length :: .p (.bool v113.2.bad) :: [])) :: .dead :: .cells (.func (.func 281) [.ptr 0 0] [] :: []) :: .cells (Zz (cI .u8) v113.2.out) :: []), .tuple [], gcQ, ?_⟩;refine dF ?_;obtain rfl := Qb h;show Exists _;exact ⟨(rho [0, 1, 3]), Zc⟩
 refine lpH (τ := Unit) (fun _ => (a4 (.any :: .p .nilSlice :: iI 0 :: iI 0 :: a4 (a2 ([]))) : List AV)) (fun n0 ⟨⟩ => W7 N c n0) () h fun n0 ⟨⟩ h => ?_
 first | rw [W7] at h | simp only [W7] at h
 refine dF ?_;obtain rfl := Qb h;show Exists _;exact ⟨(rho [0, 1, 1]), Zc⟩
def Jv (N : Nat) (m : Q14) : Option (List UInt8) :=
 (Yc N (⟨1, m, [], false⟩ : Q4)).bind fun v1 =>
 some (v1.2.out.map fun n => UInt8.ofNat n.toNat)
theorem Q2x {N} {m} {r} (h : Jv N m = some r) : pU 134 [.agg (Q14.cells m)] (.str r) := by
 refine Q2 Zao ?_;unfold Jv at h;refine cG h Vu fun v1 h => ?_;refine ⟨rho [1, 3], (.cells (Zr m ([])) :: .cells (.p .nilPtr :: iI v1.2.do' :: Zr v1.2.m (.slice 1 2 0 v1.2.out.length :: .p (.bool v1.2.bad) :: [])) :: .cells (Zz (cI .u8) v1.2.out) :: []), .tuple [], ⟨(rE rfl <| rN), (hC rfl (rE rfl <| rE rfl <| rE rfl <| rE rfl <| rE rfl <| rE rfl <| rE rfl <| rE rfl <| rE rfl <| rE rfl <| rE rfl <| rE rfl <| rE rfl <| rE rfl <| rE rfl <| rE rfl <| rE rfl <| rE rfl <| rS <| rE rfl <| rN) <| hV lb <| hN), rfl, rfl, (roE rfl <| roE (Wx _ _ _) <| roN), rfl, (fK rfl rfl <| fR 0 rfl rfl rfl rfl <| fO 2 rfl rfl rfl <| fN), rfl⟩, ?_⟩;refine Qhx (l := v1.2.out) (n := v1.2.out.length) sd ?_;cases h; exact (.p _)
def Jg (_N : Nat) (kind : Int) : Option (Bool) :=
 cond (Q3 .eql kind 3)
 (some false)
 (cond (Q3 .eql kind 17)
 (some false)
 (cond (Q3 .eql kind 25)
 (some false)
 (cond (Q3 .eql kind 254)
 (some true)
 (cond (Q3 .geq kind 0)
 (some (Q3 .leq kind 29))
 (some false)))))
theorem Q6n {N} {kind} {r} (h : Jg N kind = some r) : pU 174 [.int .i64 kind] (.bool r) := by
 refine Q2 Z6w ?_;unfold Jg at h;rw [cX] at h;refine ifO h (fun hc1 h => ?_) (fun hc1 h => ?_)
 ·refine ifT hc1 ?_;cases h; exact (.p _)
 refine ifO h (fun hc2 h => ?_) (fun hc2 h => ?_)
 ·refine ifT hc2 ?_;cases h; exact (.p _)
 refine iL h fun h => ?_;refine iL h fun h => ?_;exact iB h
def Q0b (N : Nat) (kind : Int) : Option (Bool) :=
 (Jg N kind).bind fun v1 =>
 cond v1
 (some (Q3 .neq kind 254))
 (some false)
theorem Qbo {N} {kind} {r} (h : Q0b N kind = some r) : pU 167 [.int .i64 kind] (.bool r) := by
 refine Q2 Zas ?_;unfold Q0b at h;rw [cX] at h;refine cP h Q6n p1 fun v1 h => ?_;exact iB h
def Q2h (_N : Nat) (kind : Int) : Option (Xx) :=
 cond (Q3 .eql kind 4)
 (some (⟨false, 0, false, true, true, 0⟩ : Xx))
 (cond (Q3 .eql kind 7)
 (some (⟨false, 1, true, false, false, 0⟩ : Xx))
 (cond (Q3 .eql kind 26)
 (some (⟨false, 1, true, false, false, 0⟩ : Xx))
 (cond (Q3 .eql kind 19)
 (some (⟨false, 1, false, false, false, 0⟩ : Xx))
 (cond (Q3 .eql kind 12)
 (some (⟨true, 1, true, false, false, 1⟩ : Xx))
 (cond (Q3 .eql kind 18)
 (some (⟨true, 1, false, false, false, 1⟩ : Xx))
 (cond (Q3 .eql kind 20)
 (some (⟨false, 0, false, false, false, 1⟩ : Xx))
 (some (⟨false, 0, false, false, false, 0⟩ : Xx))))))))
theorem Qei {N} {kind} {r} (h : Q2h N kind = some r) : pU 222 [.int .i64 kind] (.agg (Xx.cells r)) := by
 refine Q2 Zfi ?_;unfold Q2h at h;rw [cX] at h;apply iU h <;> intro h
 ·show Frz _ _ _ _;obtain rfl := Qb h; exact (Frz.agg' (.cons (.p _) p5))
 refine ifO h (fun hc2 h => ?_) (fun hc2 h => ?_)
 ·refine ifT hc2 ?_;show Frz _ _ _ _;obtain rfl := Qb h; exact (Frz.agg' (.cons (.p _) p5))
 apply iU h <;> intro h
 ·show Frz _ _ _ _;obtain rfl := Qb h; exact (Frz.agg' (.cons (.p _) p5))
 apply iU h <;> intro h
 ·show Frz _ _ _ _;obtain rfl := Qb h; exact (Frz.agg' (.cons (.p _) p5))
 apply iU h <;> intro h
 ·show Frz _ _ _ _;obtain rfl := Qb h; exact (Frz.agg' (.cons (.p _) p5))
 apply iU h <;> intro h
 ·show Frz _ _ _ _;obtain rfl := Qb h; exact (Frz.agg' (.cons (.p _) p5))
 apply iU h <;> intro h
 ·show Frz _ _ _ _;obtain rfl := Qb h; exact (Frz.agg' (.cons (.p _) p5))
 show Frz _ _ _ _;obtain rfl := Qb h; exact (Frz.agg' (.cons (.p _) p5))
def Gu (_N : Nat) (c15 : Bool) (c18 : Int) (c21 : Bool) (c24 : Bool) (c27 : Bool) (c30 : Int) : Option (Bool) :=
 some (((c15 : Bool) == false) && (((c18 : Int) == 0) && (((c21 : Bool) == false) && (((c24 : Bool) == false) && (((c27 : Bool) == false) && (((c30 : Int) == 0) && true))))))
def Q09 (N : Nat) (f : Xx) (v12 : Xx) (c15 : Bool) (c18 : Int) (c21 : Bool) (c24 : Bool) (c27 : Bool) : Option (Bool) :=
 cond (Q3 .eql v12.Type' 1)
 (Gu N c15 c18 c21 c24 c27 0)
 (Gu N c15 c18 c21 c24 c27 f.Type')
def Q0g (N : Nat) (f : Xx) (v12 : Xx) (c15 : Bool) (c18 : Int) (c21 : Bool) (c24 : Bool) : Option (Bool) :=
 cond v12.Clean
 (Q09 N f v12 c15 c18 c21 c24 false)
 (Q09 N f v12 c15 c18 c21 c24 f.Clean)
def Q0n (N : Nat) (f : Xx) (v12 : Xx) (c15 : Bool) (c18 : Int) (c21 : Bool) : Option (Bool) :=
 cond v12.Will
 (Q0g N f v12 c15 c18 c21 false)
 (Q0g N f v12 c15 c18 c21 f.Will)
def Q01 (N : Nat) (f : Xx) (v12 : Xx) (c15 : Bool) (c18 : Int) : Option (Bool) :=
 cond v12.Retain
 (Q0n N f v12 c15 c18 false)
 (Q0n N f v12 c15 c18 f.Retain)
def Q0d (N : Nat) (f : Xx) (v12 : Xx) (c15 : Bool) : Option (Bool) :=
 cond (Q3 .eql v12.QoS 1)
 (Q01 N f v12 c15 0)
 (Q01 N f v12 c15 f.QoS)
def Q0h (N : Nat) (kind : Int) (f : Xx) (s9 : Bool) : Option (Bool) :=
 cond s9
 (some false)
 ((Q2h N kind).bind fun v12 =>
 cond v12.Dup
 (Q0d N f v12 false)
 (Q0d N f v12 f.Dup))
def Q6a (N : Nat) (kind : Int) (f : Xx) : Option (Bool) :=
 (Q0y N f).bind fun v1 =>
 cond (Q3 .neq v1.2 0)
 (some false)
 (cond (Q3 .lss f.QoS 0)
 (Q0h N kind f (Q3 .neq kind 12))
 (Q0h N kind f false))
theorem Qgf {N} {kind} {f} {r} (h : Q6a N kind f = some r) : pU 168 [.int .i64 kind, .agg (Xx.cells f)] (.bool r) := by
 refine Q2 Z91 ?_;unfold Q6a at h;rw [cX] at h;refine cP h Q7t (.cons (Frz.agg' (.cons (.p _) p5)) .nil) fun v1 h => ?_;refine iL h fun h => ?_;refine Y4 ?_;refine jrH (r := r) (σ := Bool) (fun s9 => (iI kind :: .any :: .any :: .ptr 0 0 :: a16 (.any :: .p (.bool s9) :: a16 (a8 (.any :: []))) : List AV)) (fun s9 => Q0h N kind f s9) ?_ ?_
 ·apply iU h <;> intro h
  ·show Exists _;exact ⟨((Qrx .neq kind 12)), h, (fun i => i), Zc⟩
  show Exists _;exact ⟨(false), h, (fun i => i), Zc⟩
 rintro s9 h
 unfold Q0h at h;refine iL h fun h => ?_;refine cP h Qei p1 fun v12 h => ?_;refine jrA (r := r) (σ := Bool) (fun _ => (a2 (.any :: .ptr 0 0 :: a2 (.any :: .ptr 1 0 :: a16 (a16 (a4 (a2 (.any :: [])))))) : List AV)) (fun c15 => (.cells (.p (.bool c15) :: iI f.QoS :: .p (.bool f.Retain) :: .p (.bool f.Will) :: .p (.bool f.Clean) :: iI f.Type' :: []) :: .cells (Q95 v12 ([])) :: [] : List AObj)) (fun c15 => Q0d N f v12 c15) ?_ ?_
 ·apply iU h <;> intro h
  ·show Exists _;exact ⟨(false), h, (fun i => i), Zc⟩
  show Exists _;exact ⟨(f.Dup), h, (fun i => i), Zc⟩
 rintro c15 h
 unfold Q0d at h;rw [cX] at h;refine jrA (r := r) (σ := Int) (fun _ => (a2 (.any :: .ptr 0 0 :: a2 (.any :: .ptr 1 0 :: a16 (a16 (a4 (a2 (.any :: [])))))) : List AV)) (fun c18 => (.cells (.p (.bool c15) :: iI c18 :: .p (.bool f.Retain) :: .p (.bool f.Will) :: .p (.bool f.Clean) :: iI f.Type' :: []) :: .cells (Q95 v12 ([])) :: [] : List AObj)) (fun c18 => Q01 N f v12 c15 c18) ?_ ?_
 ·apply iU h <;> intro h
  ·show Exists _;exact ⟨(0), h, (fun i => i), Zc⟩
  show Exists _;exact ⟨(f.QoS), h, (fun i => i), Zc⟩
 rintro c18 h
 unfold Q01 at h;refine jrA (r := r) (σ := Bool) (fun _ => (a2 (.any :: .ptr 0 0 :: a2 (.any :: .ptr 1 0 :: a16 (a16 (a4 (a2 (.any :: [])))))) : List AV)) (fun c21 => (.cells (.p (.bool c15) :: iI c18 :: .p (.bool c21) :: .p (.bool f.Will) :: .p (.bool f.Clean) :: iI f.Type' :: []) :: .cells (Q95 v12 ([])) :: [] : List AObj)) (fun c21 => Q0n N f v12 c15 c18 c21) ?_ ?_
 ·apply iU h <;> intro h
  ·show Exists _;exact ⟨(false), h, (fun i => i), Zc⟩
  show Exists _;exact ⟨(f.Retain), h, (fun i => i), Zc⟩
 rintro c21 h
 unfold Q0n at h;refine jrA (r := r) (σ := Bool) (fun _ => (a2 (.any :: .ptr 0 0 :: a2 (.any :: .ptr 1 0 :: a16 (a16 (a4 (a2 (.any :: [])))))) : List AV)) (fun c24 => (.cells (.p (.bool c15) :: iI c18 :: .p (.bool c21) :: .p (.bool c24) :: .p (.bool f.Clean) :: iI f.Type' :: []) :: .cells (Q95 v12 ([])) :: [] : List AObj)) (fun c24 => Q0g N f v12 c15 c18 c21 c24) ?_ ?_
 ·apply iU h <;> intro h
  ·show Exists _;exact ⟨(false), h, (fun i => i), Zc⟩
  show Exists _;exact ⟨(f.Will), h, (fun i => i), Zc⟩
 rintro c24 h
 unfold Q0g at h;refine jrA (r := r) (σ := Bool) (fun _ => (a2 (.any :: .ptr 0 0 :: a2 (.any :: .ptr 1 0 :: a16 (a16 (a4 (a2 (.any :: [])))))) : List AV)) (fun c27 => (.cells (.p (.bool c15) :: iI c18 :: .p (.bool c21) :: .p (.bool c24) :: .p (.bool c27) :: iI f.Type' :: []) :: .cells (Q95 v12 ([])) :: [] : List AObj)) (fun c27 => Q09 N f v12 c15 c18 c21 c24 c27) ?_ ?_
 ·apply iU h <;> intro h
  ·show Exists _;exact ⟨(false), h, (fun i => i), Zc⟩
  show Exists _;exact ⟨(f.Clean), h, (fun i => i), Zc⟩
 rintro c27 h
 unfold Q09 at h;rw [cX] at h;refine jrA (r := r) (σ := Int) (fun _ => (a2 (.any :: .ptr 0 0 :: a16 (a16 (a8 (a2 (.any :: []))))) : List AV)) (fun c30 => (.cells (.p (.bool c15) :: iI c18 :: .p (.bool c21) :: .p (.bool c24) :: .p (.bool c27) :: iI c30 :: []) :: .cells (Q95 v12 ([])) :: [] : List AObj)) (fun c30 => Gu N c15 c18 c21 c24 c27 c30) ?_ ?_
 ·apply iU h <;> intro h
  ·show Exists _;exact ⟨(0), h, (fun i => i), Zc⟩
  show Exists _;exact ⟨(f.Type'), h, (fun i => i), Zc⟩
 rintro c30 h
 unfold Gu at h;cases h; exact (.p _)
def Q43 (_N : Nat) (kind : Int) : Option (Bool) :=
 cond (Q3 .eql kind 7)
 (some true)
 (some (Q3 .eql kind 26))
theorem Qfb {N} {kind} {r} (h : Q43 N kind = some r) : pU 169 [.int .i64 kind] (.bool r) := by
 refine Q2 Zfh ?_;unfold Q43 at h;rw [cX] at h;exact iB h
def G7 (_N : Nat) (m : Q14) : Option (Bool) :=
 cond (Q3 .eql m.Type' 10)
 (some (Q3 .neq m.MsgID 0))
 (cond (Q3 .eql m.Type' 14)
 (some (Q3 .neq m.MsgID 0))
 (cond (Q3 .eql m.Type' 15)
 (some (Q3 .neq m.MsgID 0))
 (cond (Q3 .eql m.Type' 16)
 (some (Q3 .neq m.MsgID 0))
 (cond (Q3 .eql m.Type' 21)
 (some (Q3 .neq m.MsgID 0))
 (cond (Q3 .eql m.Type' 18)
 (some (Q3 .neq m.MsgID 0))
 (cond (Q3 .eql m.Type' 20)
 (some (Q3 .neq m.MsgID 0))
 (cond (Q3 .eql m.Type' 12)
 (some ((Q3 .neq m.MsgID 0) == (Q3 .gtr m.Flags.QoS 0)))
 (some true))))))))
theorem Q4d {N} {m} {r} (h : G7 N m = some r) : pU 171 [.agg (Q14.cells m)] (.bool r) := by
 refine Q2 Z63 ?_;unfold G7 at h;rw [cX] at h;refine ifO h (fun hc1 h => ?_) (fun hc1 h => ?_)
 ·refine ifT hc1 ?_;cases h; exact (.p _)
 refine ifO h (fun hc2 h => ?_) (fun hc2 h => ?_)
 ·refine ifT hc2 ?_;cases h; exact (.p _)
 refine ifO h (fun hc3 h => ?_) (fun hc3 h => ?_)
 ·refine ifT hc3 ?_;cases h; exact (.p _)
 refine ifO h (fun hc4 h => ?_) (fun hc4 h => ?_)
 ·refine ifT hc4 ?_;cases h; exact (.p _)
 refine ifO h (fun hc5 h => ?_) (fun hc5 h => ?_)
 ·refine ifT hc5 ?_;cases h; exact (.p _)
 refine ifO h (fun hc6 h => ?_) (fun hc6 h => ?_)
 ·refine ifT hc6 ?_;cases h; exact (.p _)
 refine iL h fun h => ?_;exact iB h
def Q0p (_N : Nat) (s_0 : List UInt8) : Option (Bool) :=
 cond (Q3 .geq (s_0.length : Int) 3)
 (cond (Nat.ble 0 3 && Nat.ble 3 s_0.length) (some (Q4o .eql ((s_0.take 3).drop 0) [239, 191, 189])) none)
 (some false)
theorem Qb6 {N} {s_0} {r} (h : Q0p N s_0 = some r) : pU 151 [.str s_0] (.bool r) := by
 refine Q2 Ze3 ?_;unfold Q0p at h;rw [cX, cY] at h;refine iR h fun h => ?_;refine kU h fun h => ?_;cases h; exact (.p _)
def Ws (N : Nat) (s_0 : List UInt8) : Nat → Nat → Option (Int)
 | 0, _ => none
 | n + 1, pos16 =>
  cond (Nat.blt pos16 s_0.length)
  (cond (Q3 .eql (((Qck s_0 pos16).1 : Nat) : Int) 0)
  (some ((pos16 : Nat) : Int))
  (cond (Q3 .eql (((Qck s_0 pos16).1 : Nat) : Int) 65533)
  (cond (Nat.ble pos16 s_0.length && Nat.ble s_0.length s_0.length) ((Q0p N ((s_0.take s_0.length).drop pos16)).bind fun v21 =>
  cond (!v21)
  (some ((pos16 : Nat) : Int))
  (Ws N s_0 n (pos16 + (Qck s_0 pos16).2))) none)
  (Ws N s_0 n (pos16 + (Qck s_0 pos16).2))))
  (some (-1))
def Q4q (N : Nat) (s_0 : List UInt8) : Option (Int) :=
 Ws N s_0 N 0
theorem Qe6 {N} {s_0} {r} (h : Q4q N s_0 = some r) : pU 111 [.str s_0] (.int .i64 r) := by
 refine Q2 Zan ?_;unfold Q4q at h;refine lpA (τ := Nat) (fun _ => (iS s_0 :: a4 (.any :: .ptr 0 0 :: a16 (a2 ([]))) : List AV)) (fun pos16 => (.strIter s_0 pos16 :: [] : List AObj)) (fun n0 pos16 => Ws N s_0 n0 pos16) (0) h fun n0 pos16 h => ?_
 first | rw [Ws] at h | simp only [Ws] at h
 rw [cX] at h;refine iR h fun h => ?_;refine iL h fun h => ?_;apply iU h <;> intro h
 ·refine kU h fun h => ?_;refine cP h Qb6 p1 fun v21 h => ?_;refine iL h fun h => ?_;show Exists _;exact ⟨(n0, (pos16 + (Qck s_0 pos16).2)), h, Le _, (fun i => i), Zc⟩
 show Exists _;exact ⟨(n0, (pos16 + (Qck s_0 pos16).2)), h, Le _, (fun i => i), Zc⟩
def Qz (N : Nat) (s_0 : List UInt8) : Option (Bool) :=
 cond (Q3 .leq (s_0.length : Int) 65535)
 ((Q4q N s_0).bind fun v2 =>
 some (Q3 .eql v2 (-1)))
 (some false)
theorem Zn {N} {s_0} {r} (h : Qz N s_0 = some r) : pU 83 [.str s_0] (.bool r) := by
 refine Q2 k83 ?_;unfold Qz at h;rw [cX] at h;refine iR h fun h => ?_;refine cP h Qe6 p1 fun v2 h => ?_;cases h; exact (.p _)
def Q44 (N : Nat) (s_0 : List UInt8) : Option (Bool) :=
 cond (Q4o .neq s_0 [])
 ((Qz N s_0).bind fun v2 =>
 some v2)
 (some false)
theorem Q8j {N} {s_0} {r} (h : Q44 N s_0 = some r) : pU 69 [.str s_0] (.bool r) := by
 refine Q2 k69 ?_;unfold Q44 at h;rw [cY] at h;refine iR h fun h => ?_;refine cP h Zn p1 fun v2 h => ?_;cases h; exact (.p _)
def Qr (_N : Nat) (s_0 : List UInt8) (c : Int) : Option (Int) :=
 some (Qhi s_0 (UInt8.ofNat (Int.toNat c)) 0 : Int)
theorem W3 {N} {s_0} {c} {r} (h : Qr N s_0 c = some r) : pU 185 [.str s_0, .int .u8 c] (.int .i64 r) := by
 refine Q2 Zes ?_;unfold Qr at h;cases h; exact (.p _)
def Jz (N : Nat) (s_0 : List UInt8) (c : Int) : Option (Int) :=
 (Qr N s_0 c).bind fun v1 =>
 some v1
theorem Q3c {N} {s_0} {c} {r} (h : Jz N s_0 c = some r) : pU 152 [.str s_0, .int .u8 c] (.int .i64 r) := by
 refine Q2 Zfb ?_;unfold Jz at h;refine cP h W3 p2 fun v1 h => ?_;cases h; exact (.p _)
def Y9 (_N : Nat) (r_0 : Int) : Option (Bool) :=
 cond (Q3 .leq 0 r_0)
 (cond (Q3 .lss r_0 55296)
 (some true)
 (cond (Q3 .lss 57343 r_0)
 (cond (Q3 .leq r_0 1114111)
 (some true)
 (some false))
 (some false)))
 (cond (Q3 .lss 57343 r_0)
 (cond (Q3 .leq r_0 1114111)
 (some true)
 (some false))
 (some false))
theorem Q05 {N} {r_0} {r} (h : Y9 N r_0 = some r) : pU 153 [.int .i32 r_0] (.bool r) := by
 refine Q2 Z96 ?_;unfold Y9 at h;rw [cX] at h;apply iU h <;> intro h
 ·refine iL h fun h => ?_;refine iR h fun h => ?_;exact iB h
 refine iR h fun h => ?_;exact iB h
def Zt (N : Nat) (s_0 : List UInt8) : Nat → Nat → Option (Int)
 | 0, _ => none
 | n + 1, pos13 =>
  cond (Nat.blt pos13 s_0.length)
  (cond (Q3 .eql (((Qck s_0 pos13).1 : Nat) : Int) 65533)
  (some ((pos13 : Nat) : Int))
  (Zt N s_0 n (pos13 + (Qck s_0 pos13).2)))
  (some (-1))
def V3 (N : Nat) (s_0 : List UInt8) (r_1 : Int) (v82 : Int) : Nat → Int → Option (Int)
 | 0, _ => none
 | n + 1, j98 =>
  cond (Q3 .lss j98 (((Utf8.encode r_1).data.toList).length : Int))
  ((idx s_0 (IntKind.wrap .i64 ((IntKind.wrap .i64 ((IntKind.wrap .i64 ((((Utf8.encode r_1).data.toList).length : Int) - 1)) + (IntKind.wrap .i64 (v82 + 1)))) - j98))).bind fun b100 =>
  (idx ((Utf8.encode r_1).data.toList) (IntKind.wrap .i64 ((IntKind.wrap .i64 ((((Utf8.encode r_1).data.toList).length : Int) - 1)) - j98))).bind fun b102 =>
  cond (Q3 .neq (b100.toNat : Int) (b102.toNat : Int))
  (none)
  (V3 N s_0 r_1 v82 n (IntKind.wrap .i64 (j98 + 1))))
  (some (IntKind.wrap .i64 ((IntKind.wrap .i64 ((IntKind.wrap .i64 ((((Utf8.encode r_1).data.toList).length : Int) - 1)) + (IntKind.wrap .i64 (v82 + 1)))) - (IntKind.wrap .i64 ((((Utf8.encode r_1).data.toList).length : Int) - 1)))))
def V0 (N : Nat) (s_0 : List UInt8) (r_1 : Int) : Nat → Int → Option (Int)
 | 0, _ => none
 | n + 1, j118 =>
  cond (Q3 .lss j118 (((Utf8.encode r_1).data.toList).length : Int))
  ((idx s_0 (IntKind.wrap .i64 ((IntKind.wrap .i64 ((((Utf8.encode r_1).data.toList).length : Int) - 1)) - j118))).bind fun b120 =>
  (idx ((Utf8.encode r_1).data.toList) (IntKind.wrap .i64 ((IntKind.wrap .i64 ((((Utf8.encode r_1).data.toList).length : Int) - 1)) - j118))).bind fun b122 =>
  cond (Q3 .neq (b120.toNat : Int) (b122.toNat : Int))
  (none)
  (V0 N s_0 r_1 n (IntKind.wrap .i64 (j118 + 1))))
  (some (IntKind.wrap .i64 ((IntKind.wrap .i64 ((((Utf8.encode r_1).data.toList).length : Int) - 1)) - (IntKind.wrap .i64 ((((Utf8.encode r_1).data.toList).length : Int) - 1)))))
def Xv (N : Nat) (s_0 : List UInt8) (r_1 : Int) : Nat → Option (Int)
 | 0 => none
 | n + 1 =>
  cond (Q3 .lss (IntKind.wrap .i64 ((((Utf8.encode r_1).data.toList).length : Int) - 1)) (s_0.length : Int))
  ((idx s_0 (IntKind.wrap .i64 ((((Utf8.encode r_1).data.toList).length : Int) - 1))).bind fun b73 =>
  (idx ((Utf8.encode r_1).data.toList) (IntKind.wrap .i64 ((((Utf8.encode r_1).data.toList).length : Int) - 1))).bind fun b75 =>
  cond (Q3 .neq (b73.toNat : Int) (b75.toNat : Int))
  (cond (decide (0 ≤ (IntKind.wrap .i64 ((IntKind.wrap .i64 ((((Utf8.encode r_1).data.toList).length : Int) - 1)) + 1)))) (cond (Nat.ble (IntKind.wrap .i64 ((IntKind.wrap .i64 ((((Utf8.encode r_1).data.toList).length : Int) - 1)) + 1)).toNat s_0.length && Nat.ble s_0.length s_0.length) ((idx ((Utf8.encode r_1).data.toList) (IntKind.wrap .i64 ((((Utf8.encode r_1).data.toList).length : Int) - 1))).bind fun b80 =>
  (Jz N ((s_0.take s_0.length).drop ((IntKind.wrap .i64 ((IntKind.wrap .i64 ((((Utf8.encode r_1).data.toList).length : Int) - 1)) + 1)).toNat)) (b80.toNat : Int)).bind fun v82 =>
  cond (Q3 .lss v82 0)
  (some (-1))
  (V3 N s_0 r_1 v82 N 1)) none) none)
  (V0 N s_0 r_1 N 1))
  (some (-1))
def V2 (N : Nat) (s_0 : List UInt8) (r_1 : Int) (s2 : Bool) : Option (Int) :=
 cond s2
 ((Jz N s_0 (IntKind.wrap .u8 r_1)).bind fun v5 =>
 some v5)
 (cond (Q3 .eql r_1 65533)
 (Zt N s_0 N 0)
 ((Y9 N r_1).bind fun v16 =>
 cond (!v16)
 (some (-1))
 (Xv N s_0 r_1 N)))
def G8 (N : Nat) (s_0 : List UInt8) (r_1 : Int) : Option (Int) :=
 cond (Q3 .leq 0 r_1)
 (V2 N s_0 r_1 (Q3 .lss r_1 128))
 (V2 N s_0 r_1 false)
theorem Q83 {N} {s_0} {r_1} {r} (h : G8 N s_0 r_1 = some r) : pU 112 [.str s_0, .int .i32 r_1] (.int .i64 r) := by
 refine Q2 Z93 ?_;unfold G8 at h;rw [cX] at h;refine jrH (r := r) (σ := Bool) (fun s2 => (iS s_0 :: .p (.int .i32 r_1) :: a16 (a16 (a16 (a16 (a16 (a16 (a16 (a16 (a16 (a8 (a4 (a2 (.p (.bool s2) :: a16 (a8 (a2 ([]))))))))))))))) : List AV)) (fun s2 => V2 N s_0 r_1 s2) ?_ ?_
 ·apply iU h <;> intro h
  ·show Exists _;exact ⟨((Qrx .lss r_1 128)), h, (fun i => i), Zc⟩
  show Exists _;exact ⟨(false), h, (fun i => i), Zc⟩
 rintro s2 h
 unfold V2 at h;rw [cX] at h;apply iU h <;> intro h
 ·refine cP h Q3c p2 fun v5 h => ?_;cases h; exact (.p _)
 apply iU h <;> intro h
 ·refine lpA (τ := Nat) (fun _ => (a16 (a16 (a16 (a16 (a16 (a16 (a16 (a16 (a16 (a16 (a8 (a4 (a2 (.any :: .ptr 0 0 :: a8 (a2 (.any :: []))))))))))))))) : List AV)) (fun pos13 => (.strIter s_0 pos13 :: [] : List AObj)) (fun n1 pos13 => Zt N s_0 n1 pos13) (0) h fun n1 pos13 h => ?_
  first | rw [Zt] at h | simp only [Zt] at h
  rw [cX] at h;refine iR h fun h => ?_;refine iL h fun h => ?_;show Exists _;exact ⟨(n1, (pos13 + (Qck s_0 pos13).2)), h, Le _, (fun i => i), Zc⟩
 refine cP h Q05 p1 fun v16 h => ?_;refine iL h fun h => ?_;refine lpH (τ := Unit) (fun _ => (iS s_0 :: a4 (a2 (iS ((Utf8.encode r_1).data.toList) :: .p (.int .i64 (IntKind.wrap .i64 ((((Utf8.encode r_1).data.toList).length : Int) - 1))) :: .p (.int .i64 (IntKind.wrap .i64 ((((Utf8.encode r_1).data.toList).length : Int) - 1))) :: a16 (a16 (a16 (a16 (a16 (a16 (a16 (a16 (a16 (a16 (a16 (.any :: []))))))))))))) : List AV)) (fun n2 ⟨⟩ => Xv N s_0 r_1 n2) () h fun n2 ⟨⟩ h => ?_
 first | rw [Xv] at h | simp only [Xv] at h
 rw [cX] at h;refine iR h fun h => ?_;refine Qc ?_;refine xB h fun b73 h => ?_;refine xB h fun b75 h => ?_;apply iU h <;> intro h
 ·refine Qc ?_;refine kU h fun h => ?_;refine kU h fun h => ?_;refine xB h fun b80 h => ?_;refine cD h Q3c p2 fun v82 h => ?_;refine iL h fun h => ?_;refine lpH (τ := Int) (fun j98 => (iS s_0 :: a4 (a2 (iS ((Utf8.encode r_1).data.toList) :: .p (.int .i64 (IntKind.wrap .i64 ((((Utf8.encode r_1).data.toList).length : Int) - 1))) :: .p (.int .i64 (IntKind.wrap .i64 ((IntKind.wrap .i64 ((((Utf8.encode r_1).data.toList).length : Int) - 1)) + (IntKind.wrap .i64 (v82 + 1))))) :: .any :: .any :: iI j98 :: a16 (a16 (a16 (a16 (a16 (a16 (a16 (a16 (a16 (a16 (a8 (a4 (a2 ([]))))))))))))))) : List AV)) (fun n3 j98 => V3 N s_0 r_1 v82 n3 j98) (1) h fun n3 j98 h => ?_
  first | rw [V3] at h | simp only [V3] at h
  rw [cX] at h;refine iR h fun h => ?_;refine Qc ?_;refine xB h fun b100 h => ?_;refine xB h fun b102 h => ?_;apply iU h <;> intro h
  ·first | (cases h; done) | (simp [Qsp] at h; done)
  show Exists _;exact ⟨(n3, (IntKind.wrap .i64 (j98 + 1))), h, Le _, (fun i => i), Zc⟩
 refine lpH (τ := Int) (fun j118 => (iS s_0 :: a4 (a2 (iS ((Utf8.encode r_1).data.toList) :: .p (.int .i64 (IntKind.wrap .i64 ((((Utf8.encode r_1).data.toList).length : Int) - 1))) :: .p (.int .i64 (IntKind.wrap .i64 ((((Utf8.encode r_1).data.toList).length : Int) - 1))) :: .any :: .any :: iI j118 :: a16 (a16 (a16 (a16 (a16 (a16 (a16 (a16 (a16 (a16 (a8 (a4 (a2 ([]))))))))))))))) : List AV)) (fun n4 j118 => V0 N s_0 r_1 n4 j118) (1) h fun n4 j118 h => ?_
 first | rw [V0] at h | simp only [V0] at h
 rw [cX] at h;refine iR h fun h => ?_;refine Qc ?_;refine xB h fun b120 h => ?_;refine xB h fun b122 h => ?_;apply iU h <;> intro h
 ·first | (cases h; done) | (simp [Qsp] at h; done)
 show Exists _;exact ⟨(n4, (IntKind.wrap .i64 (j118 + 1))), h, Le _, (fun i => i), Zc⟩
def Ul (_N : Nat) (bufLen : Int) : Option (Bool) :=
 some (Q3 .gtr bufLen 8)
theorem Q4a {N} {bufLen} {r} (h : Ul N bufLen = some r) : pU 113 [.int .i64 bufLen] (.bool r) := by
 refine Q2 Za6 ?_;unfold Ul at h;rw [cX] at h;cases h; exact (.p _)
def Yy (N : Nat) (s_0 : List UInt8) : Nat → Int → Option (Int)
 | 0, _ => none
 | n + 1, i20 =>
  cond (Q3 .lss i20 (s_0.length : Int))
  ((idx s_0 i20).bind fun b22 =>
  cond (decide (0 ≤ (b22.toNat : Int)) && decide ((b22.toNat : Int) < ((256 : Nat) : Int))) ((idx ([false, false, false, false, false, false, false, false, false, false, false, false, false, false, false, false, false, false, false, false, false, false, false, false, false, false, false, false, false, false, false, false, false, false, false, true, false, false, false, false, false, false, false, true, false, false, false, false, false, false, false, false, false, false, false, false, false, false, false, false, false, false, false, false, false, false, false, false, false, false, false, false, false, false, false, false, false, false, false, false, false, false, false, false, false, false, false, false, false, false, false, false, false, false, false, false, false, false, false, false, false, false, false, false, false, false, false, false, false, false, false, false, false, false, false, false, false, false, false, false, false, false, false, false, false, false, false, false, false, false, false, false, false, false, false, false, false, false, false, false, false, false, false, false, false, false, false, false, false, false, false, false, false, false, false, false, false, false, false, false, false, false, false, false, false, false, false, false, false, false, false, false, false, false, false, false, false, false, false, false, false, false, false, false, false, false, false, false, false, false, false, false, false, false, false, false, false, false, false, false, false, false, false, false, false, false, false, false, false, false, false, false, false, false, false, false, false, false, false, false, false, false, false, false, false, false, false, false, false, false, false, false, false, false, false, false, false, false, false, false, false, false, false, false, false, false, false, false, false, false, false, false, false, false, false, false] : List Bool) (b22.toNat : Int)).bind fun y24 =>
  cond y24
  (some i20)
  (Yy N s_0 n (IntKind.wrap .i64 (i20 + 1)))) none)
  (some (-1))
def Yz (N : Nat) (s_0 : List UInt8) : Nat → Nat → Option (Int)
 | 0, _ => none
 | n + 1, pos37 =>
  cond (Nat.blt pos37 s_0.length)
  ((G8 N [43, 35] (((Qck s_0 pos37).1 : Nat) : Int)).bind fun v39 =>
  cond (Q3 .geq v39 0)
  (some ((pos37 : Nat) : Int))
  (Yz N s_0 n (pos37 + (Qck s_0 pos37).2)))
  (some (-1))
def J7 (N : Nat) (s_0 : List UInt8) : Option (Int) :=
 cond (Q4o .eql [43, 35] [])
 (some (-1))
 ((Ul N (s_0.length : Int)).bind fun v2 =>
 cond v2
 (Yy N s_0 N 0)
 (Yz N s_0 N 0))
theorem Q6q {N} {s_0} {r} (h : J7 N s_0 = some r) : pU 84 [.str s_0, .str [43, 35]] (.int .i64 r) := by
 refine Q2 k84 ?_;unfold J7 at h;rw [cY] at h;refine iL h fun h => ?_;refine dF ?_;refine cP h Q4a p1 fun v2 h => ?_;apply iU h <;> intro h
 ·refine Qg Zfz ?_;refine Z9 4 ?_;refine dT ?_;refine dF ?_;refine dT ?_;refine dF ?_;refine dF ?_;refine lpH (τ := Int) (fun i20 => (iS s_0 :: a4 (.any :: .ptr 1 0 :: .any :: iI i20 :: a16 (a16 (a8 (a4 (a2 ([])))))) : List AV)) (fun n0 i20 => Yy N s_0 n0 i20) (0) h fun n0 i20 h => ?_
  first | rw [Yy] at h | simp only [Yy] at h
  rw [cX] at h;refine iR h fun h => ?_;refine xB h fun b22 h => ?_;refine Qg Zcm ?_;refine kU h fun h => ?_;obtain ⟨y24, hy25, h⟩ := Js h
  refine Q76 (c := cB) (e := 1) (fun _ => rfl) hy25 (off := 0) (by decide) (by first | omega | (simp only [Gi, orI, Qjs, Jr, Q27, Q6l]; omega)) ?_
  refine iL h fun h => ?_;show Exists _;exact ⟨(n0, (IntKind.wrap .i64 (i20 + 1))), h, Le _, (fun i => i), Zc⟩
 refine lpA (τ := Nat) (fun _ => (.any :: .p (.str [43, 35]) :: a16 (a16 (a8 (a2 (.any :: .ptr 0 0 :: a8 (.any :: []))))) : List AV)) (fun pos37 => (.strIter s_0 pos37 :: [] : List AObj)) (fun n1 pos37 => Yz N s_0 n1 pos37) (0) h fun n1 pos37 h => ?_
 first | rw [Yz] at h | simp only [Yz] at h
 rw [cX] at h;refine iR h fun h => ?_;refine cP h Q83 p2 fun v39 h => ?_;refine iL h fun h => ?_;show Exists _;exact ⟨(n1, (pos37 + (Qck s_0 pos37).2)), h, Le _, (fun i => i), Zc⟩
def Zu (N : Nat) (s_0 : List UInt8) : Option (Bool) :=
 (J7 N s_0).bind fun v1 =>
 some (Q3 .geq v1 0)
theorem Uo {N} {s_0} {r} (h : Zu N s_0 = some r) : pU 70 [.str s_0, .str [43, 35]] (.bool r) := by
 refine Q2 k70 ?_;unfold Zu at h;rw [cX] at h;refine cP h Q6q p2 fun v1 h => ?_;cases h; exact (.p _)
def Z5 (N : Nat) (s_0 : List UInt8) : Option (Bool) :=
 (Q44 N s_0).bind fun v1 =>
 cond v1
 ((Zu N s_0).bind fun v4 =>
 some (!v4))
 (some false)
theorem Yi {N} {s_0} {r} (h : Z5 N s_0 = some r) : pU 42 [.str s_0] (.bool r) := by
 refine Q2 k42 ?_;unfold Z5 at h;refine cP h Q8j p1 fun v1 h => ?_;refine iR h fun h => ?_;refine cP h Uo p2 fun v4 h => ?_;cases h; exact (.p _)
def Jw (N : Nat) (id : Int) : Option ((List UInt8) × Bool) :=
 cond (Q3 .lss id 0)
 (some ([], false))
 (cond (Q3 .gtr id 65535)
 (some ([], false))
 ((Qk N (IntKind.wrap .u64 id) 2).bind fun v3 =>
 (Z5 N v3).bind fun v5 =>
 cond (!v5)
 (some ([], false))
 (some (v3, true))))
theorem Q37 {N} {id} {r} (h : Jw N id = some r) : pU 224 [.int .i64 id] (.tuple [.str r.1, .bool r.2]) := by
 refine Q2 Zcs ?_;unfold Jw at h;rw [cX] at h;refine iL2 h fun h => ?_;refine iL2 h fun h => ?_;refine cP h Qf p2 fun v3 h => ?_;refine cP h Yi p1 fun v5 h => ?_;exact iB2 h
def Us (N : Nat) (m : Q14) : Option (Int) :=
 cond (Q3 .eql m.Type' 18)
 (cond (Q3 .eql m.Flags.Type' 0)
 (some 0)
 (cond (Q3 .eql m.Flags.Type' 2)
 ((Jw N m.TopicID).bind fun v4 =>
 cond (!v4.2)
 (some 10)
 (some 0))
 (cond (Q3 .lss m.TopicID 1)
 (some 2)
 (cond (Q3 .gtr m.TopicID 65534)
 (some 2)
 (some 0)))))
 (cond (Q3 .eql m.Type' 20)
 (cond (Q3 .eql m.Flags.Type' 0)
 (some 0)
 (cond (Q3 .eql m.Flags.Type' 2)
 ((Jw N m.TopicID).bind fun v12 =>
 cond (!v12.2)
 (some 10)
 (some 0))
 (cond (Q3 .lss m.TopicID 1)
 (some 2)
 (cond (Q3 .gtr m.TopicID 65534)
 (some 2)
 (some 0)))))
 (cond (Q3 .eql m.Type' 12)
 (cond (Q3 .eql m.Flags.Type' 2)
 ((Jw N m.TopicID).bind fun v19 =>
 cond (!v19.2)
 (some 10)
 (some 0))
 (cond (Q3 .lss m.TopicID 1)
 (some 2)
 (cond (Q3 .gtr m.TopicID 65534)
 (some 2)
 (some 0))))
 (cond (Q3 .eql m.Type' 10)
 (cond (Q3 .eql m.Flags.Type' 2)
 ((Jw N m.TopicID).bind fun v26 =>
 cond (!v26.2)
 (some 10)
 (some 0))
 (cond (Q3 .lss m.TopicID 1)
 (some 2)
 (cond (Q3 .gtr m.TopicID 65534)
 (some 2)
 (some 0))))
 (some 0))))
theorem Q2q {N} {m} {r} (h : Us N m = some r) : pU 172 [.agg (Q14.cells m)] (.int .i64 r) := by
 refine Q2 Z6u ?_;unfold Us at h;rw [cX] at h;refine ifO h (fun hc1 h => ?_) (fun hc1 h => ?_)
 ·refine ifT hc1 ?_;refine iL h fun h => ?_;apply iU h <;> intro h
  ·refine cP h Q37 p1 fun v4 h => ?_;exact iB h
  refine iL h fun h => ?_;exact iB h
 apply iU h <;> intro h
 ·refine iL h fun h => ?_;apply iU h <;> intro h
  ·refine cP h Q37 p1 fun v12 h => ?_;exact iB h
  refine iL h fun h => ?_;exact iB h
 refine ifO h (fun hc17 h => ?_) (fun hc17 h => ?_)
 ·refine ifT hc17 ?_;apply iU h <;> intro h
  ·refine cP h Q37 p1 fun v19 h => ?_;exact iB h
  refine iL h fun h => ?_;exact iB h
 refine iR h fun h => ?_;apply iU h <;> intro h
 ·refine cP h Q37 p1 fun v26 h => ?_;exact iB h
 refine iL h fun h => ?_;exact iB h
def Q0i (_N : Nat) (s_0 : List UInt8) : Option (Bool) :=
 cond (Q4o .eql s_0 [43])
 (some true)
 (some (Q4o .eql s_0 [35]))
theorem Q8d {N} {s_0} {r} (h : Q0i N s_0 = some r) : pU 307 [.str s_0] (.bool r) := by
 refine Q2 Zb7 ?_;unfold Q0i at h;rw [cY] at h;exact iB h
def Z6 (N : Nat) (l : List (List UInt8)) : Nat → Int → Option (Bool)
 | 0, _ => none
 | n + 1, s36 =>
  cond (Q3 .lss s36 ((Q8 cS l).length : Int))
  ((idx l s36).bind fun y38 =>
  cond (Q4o .eql y38 [35])
  (cond (!(Q3 .eql (IntKind.wrap .i64 (s36 + 1)) ((Q8 cS l).length : Int)))
  (some false)
  ((Q0i N y38).bind fun v42 =>
  cond (!v42)
  ((Zu N y38).bind fun v45 =>
  cond v45
  (some false)
  (Z6 N l n (IntKind.wrap .i64 (s36 + 1))))
  (Z6 N l n (IntKind.wrap .i64 (s36 + 1)))))
  ((Q0i N y38).bind fun v48 =>
  cond (!v48)
  ((Zu N y38).bind fun v51 =>
  cond v51
  (some false)
  (Z6 N l n (IntKind.wrap .i64 (s36 + 1))))
  (Z6 N l n (IntKind.wrap .i64 (s36 + 1)))))
  (some true)
def Q1p (N : Nat) (l : List (List UInt8)) : Option (Bool) :=
 Z6 N l N 0
theorem Qd0 {N} {l} {r} (h : Q1p N l = some r) : pU 282 [.slice 1 (Q8 cS l)] (.bool r) := by
 refine Q2 Zgj ?_;unfold Q1p at h;refine lpH (τ := Int) (fun s36 => (.p (.slice 1 (Q8 cS l)) :: a4 (.any :: .p (.slice 1 (Q8 cS l)) :: iI ((Q8 cS l).length : Int) :: iI s36 :: a16 (a8 (.any :: []))) : List AV)) (fun n0 s36 => Z6 N l n0 s36) (0) h fun n0 s36 h => ?_
 first | rw [Z6] at h | simp only [Z6] at h
 rw [cX, cY] at h;refine iR h fun h => ?_;refine xR h fun y38 h => ?_;apply iU h <;> intro h
 ·refine iL h fun h => ?_;refine cP h Q8d p1 fun v42 h => ?_;apply iU h <;> intro h
  ·refine cP h Uo p2 fun v45 h => ?_;refine iL h fun h => ?_;show Exists _;exact ⟨(n0, (IntKind.wrap .i64 (s36 + 1))), h, Le _, (fun i => i), Zc⟩
  show Exists _;exact ⟨(n0, (IntKind.wrap .i64 (s36 + 1))), h, Le _, (fun i => i), Zc⟩
 refine cP h Q8d p1 fun v48 h => ?_;apply iU h <;> intro h
 ·refine cP h Uo p2 fun v51 h => ?_;refine iL h fun h => ?_;show Exists _;exact ⟨(n0, (IntKind.wrap .i64 (s36 + 1))), h, Le _, (fun i => i), Zc⟩
 show Exists _;exact ⟨(n0, (IntKind.wrap .i64 (s36 + 1))), h, Le _, (fun i => i), Zc⟩
def Zp (N : Nat) (s_0 : List UInt8) : Nat → Int → Nat → Option (Int)
 | 0, _, _ => none
 | n + 1, n5, pos6 =>
  cond (Nat.blt pos6 s_0.length)
  (Zp N s_0 n (IntKind.wrap .i64 (n5 + 1)) (pos6 + (Qck s_0 pos6).2))
  (some n5)
def Ww (N : Nat) (s_0 : List UInt8) : Option (Int) :=
 Zp N s_0 N 0 0
theorem Q1y {N} {s_0} {r} (h : Ww N s_0 = some r) : pU 354 [.str s_0] (.int .i64 r) := by
 refine Q2 Z7o ?_;unfold Ww at h;refine lpA (τ := Int × Nat) (fun ⟨n5, _⟩ => (.any :: .any :: iI n5 :: .any :: .ptr 0 0 :: a4 (.any :: []) : List AV)) (fun ⟨_, pos6⟩ => (.strIter s_0 pos6 :: [] : List AObj)) (fun n0 ⟨n5, pos6⟩ => Zp N s_0 n0 n5 pos6) (0, 0) h fun n0 ⟨n5, pos6⟩ h => ?_
 first | rw [Zp] at h | simp only [Zp] at h
 refine iR h fun h => ?_;show Exists _;exact ⟨(n0, (IntKind.wrap .i64 (n5 + 1)), (pos6 + (Qck s_0 pos6).2)), h, Le _, (fun i => i), Zc⟩
def Y7 (_N : Nat) (s_0 : List UInt8) : Option (Int × Int) :=
 cond (Q3 .lss (s_0.length : Int) 1)
 (some (65533, 0))
 ((idx s_0 0).bind fun b2 =>
 (idx gtab0 (b2.toNat : Int)).bind fun y4 =>
 cond (Q3 .geq y4 240)
 ((idx s_0 0).bind fun b7 =>
 some ((orI .i32 (Jr .i32 (IntKind.wrap .i32 (b7.toNat : Int)) (Q6l .i32 (Q27 .i32 (IntKind.wrap .i32 y4) 31) 31)) (Gi .i32 65533 (Q6l .i32 (Q27 .i32 (IntKind.wrap .i32 y4) 31) 31))), 1))
 ((idx gtab1 (Q6l .u8 y4 4)).bind fun y9 =>
 cond (Q3 .lss (s_0.length : Int) (IntKind.wrap .i64 (Gi .u8 y4 7)))
 (some (65533, 1))
 ((idx s_0 1).bind fun b12 =>
 cond (Q3 .lss (b12.toNat : Int) y9.1)
 (some (65533, 1))
 (cond (Q3 .lss y9.2 (b12.toNat : Int))
 (some (65533, 1))
 (cond (Q3 .leq (IntKind.wrap .i64 (Gi .u8 y4 7)) 2)
 (some ((orI .i32 (Q27 .i32 (IntKind.wrap .i32 (Gi .u8 (b2.toNat : Int) 31)) 6) (IntKind.wrap .i32 (Gi .u8 (b12.toNat : Int) 63))), 2))
 ((idx s_0 2).bind fun b17 =>
 cond (Q3 .lss (b17.toNat : Int) 128)
 (some (65533, 1))
 (cond (Q3 .lss 191 (b17.toNat : Int))
 (some (65533, 1))
 (cond (Q3 .leq (IntKind.wrap .i64 (Gi .u8 y4 7)) 3)
 (some ((orI .i32 (orI .i32 (Q27 .i32 (IntKind.wrap .i32 (Gi .u8 (b2.toNat : Int) 15)) 12) (Q27 .i32 (IntKind.wrap .i32 (Gi .u8 (b12.toNat : Int) 63)) 6)) (IntKind.wrap .i32 (Gi .u8 (b17.toNat : Int) 63))), 3))
 ((idx s_0 3).bind fun b22 =>
 cond (Q3 .lss (b22.toNat : Int) 128)
 (some (65533, 1))
 (cond (Q3 .lss 191 (b22.toNat : Int))
 (some (65533, 1))
 (some ((orI .i32 (orI .i32 (orI .i32 (Q27 .i32 (IntKind.wrap .i32 (Gi .u8 (b2.toNat : Int) 7)) 18) (Q27 .i32 (IntKind.wrap .i32 (Gi .u8 (b12.toNat : Int) 63)) 12)) (Q27 .i32 (IntKind.wrap .i32 (Gi .u8 (b17.toNat : Int) 63)) 6)) (IntKind.wrap .i32 (Gi .u8 (b22.toNat : Int) 63))), 4))))))))))))
theorem Vd {N} {s_0} {r} (h : Y7 N s_0 = some r) : pU 358 [.str s_0] (.tuple [.int .i32 r.1, .int .i64 r.2]) := by
 refine Q2 Zej ?_;unfold Y7 at h;rw [cX] at h;refine iL2 h fun h => ?_;refine xB h fun b2 h => ?_;obtain ⟨y4, hy5, h⟩ := Js h;refine Q0k (Q4k hy5 Qm6) ?_
 refine Qig (c := (cI .u8)) (e := 1) (fun _ => rfl) Qo6 hy5 (off := 0) (by decide) (by first | omega | (simp only [Gi, orI, Qjs, Jr, Q27, Q6l]; omega)) ?_
 apply iU h <;> intro h
 ·refine xB h fun b7 h => ?_;obtain rfl := Qb h; exact u2
 obtain ⟨y9, hy10, h⟩ := Js h;refine Q0k (Q4k hy10 Qln) ?_
 refine Qig (c := cUU) (e := 2) (fun _ => rfl) Qpa hy10 (off := 0) (by decide) (by first | omega | (simp only [Gi, orI, Qjs, Jr, Q27, Q6l]; omega)) ?_
 refine iL2 h fun h => ?_;refine xB h fun b12 h => ?_;refine iL2 h fun h => ?_;refine iL2 h fun h => ?_;refine iL2 h fun h => ?_;refine xB h fun b17 h => ?_;refine iL2 h fun h => ?_;refine iL2 h fun h => ?_;refine iL2 h fun h => ?_;refine xB h fun b22 h => ?_;refine iL2 h fun h => ?_;exact iB2 h
def Wn (N : Nat) (s_0 : List UInt8) : Option (Int × Int) :=
 cond (Q4o .neq s_0 [])
 ((idx s_0 0).bind fun b2 =>
 cond (Q3 .lss (b2.toNat : Int) 128)
 ((idx s_0 0).bind fun b5 =>
 some ((IntKind.wrap .i32 (b5.toNat : Int)), 1))
 ((Y7 N s_0).bind fun v7 =>
 some (v7.1, v7.2)))
 ((Y7 N s_0).bind fun v9 =>
 some (v9.1, v9.2))
theorem Q1r {N} {s_0} {r} (h : Wn N s_0 = some r) : pU 355 [.str s_0] (.tuple [.int .i32 r.1, .int .i64 r.2]) := by
 refine Q2 Zgx ?_;unfold Wn at h;rw [cX, cY] at h;apply iU h <;> intro h
 ·refine xB h fun b2 h => ?_;apply iU h <;> intro h
  ·refine xB h fun b5 h => ?_;obtain rfl := Qb h; exact u2
  refine cP h Vd p1 fun v7 h => ?_;obtain rfl := Qb h; exact u2
 refine cP h Vd p1 fun v9 h => ?_;obtain rfl := Qb h; exact u2
def U2 (N : Nat) (n5 : Int) : Nat → (List UInt8) → Int → (List (List UInt8)) → Option (List (List UInt8))
 | 0, _, _, _ => none
 | n + 1, s28, i29, l30 =>
  cond (Q3 .lss i29 (IntKind.wrap .i64 (n5 - 1)))
  ((Wn N s28).bind fun v32 =>
  cond (decide (0 ≤ v32.2)) (cond (Nat.ble 0 v32.2.toNat && Nat.ble v32.2.toNat s28.length) ((idx (l30 : List (List UInt8)) i29).bind fun y36 =>
  cond (Nat.ble v32.2.toNat s28.length && Nat.ble s28.length s28.length) (U2 N n5 n ((s28.take s28.length).drop v32.2.toNat) (IntKind.wrap .i64 (i29 + 1)) ((l30 : List (List UInt8)).set (Int.toNat i29) ((s28.take v32.2.toNat).drop 0))) none) none) none)
  (cond (Q3 .gtr n5 0)
  ((idx (l30 : List (List UInt8)) (IntKind.wrap .i64 (n5 - 1))).bind fun y40 =>
  some ((l30 : List (List UInt8)).set (Int.toNat (IntKind.wrap .i64 (n5 - 1))) s28))
  (some l30))
def U3 (N : Nat) (s_0 : List UInt8) (n5 : Int) : Option (List (List UInt8)) :=
 cond (decide (0 ≤ n5) && decide (n5 ≤ n5) && decide (n5 * 16 ≤ 1099511627776)) (U2 N n5 N s_0 0 (List.replicate (n5 : Int).toNat ([] : (List UInt8)))) none
def Q3n (N : Nat) (s_0 : List UInt8) (n_1 : Int) : Option (List (List UInt8)) :=
 (Ww N s_0).bind fun v1 =>
 cond (Q3 .lss n_1 0)
 (U3 N s_0 v1)
 (cond (Q3 .gtr n_1 v1)
 (U3 N s_0 v1)
 (U3 N s_0 n_1))
theorem Q9n {N} {s_0} {n_1} {r} (h : Q3n N s_0 n_1 = some r) : pU 347 [.str s_0, .int .i64 n_1] (.slice 1 (Q8 cS r)) := by
 refine Q2 Z7t ?_;unfold Q3n at h;rw [cX] at h;refine cP h Q1y p1 fun v1 h => ?_;refine jrH (r := r) (σ := Int) (fun n5 => (iS s_0 :: iI n5 :: a16 (a16 (a16 ([]))) : List AV)) (fun n5 => U3 N s_0 n5) ?_ ?_
 ·apply iU h <;> intro h
  ·show Exists _;exact ⟨(v1), h, (fun i => i), Zc⟩
  apply iU h <;> intro h
  ·show Exists _;exact ⟨(v1), h, (fun i => i), Zc⟩
  show Exists _;exact ⟨(n_1), h, (fun i => i), Zc⟩
 rintro n5 h
 unfold U3 at h;refine kU h fun h => ?_;refine Qz7 (c := cS) ([] : (List UInt8)) rfl ?_;refine lpC (τ := (List UInt8) × Int × (List (List UInt8))) (fun ⟨s28, i29, l30⟩ => (iS s28 :: iI n5 :: a4 (.slice 1 1 0 l30.length :: iI i29 :: a16 (a16 (a8 (a2 ([]))))) : List AV)) (fun ⟨_, _, l30⟩ => (.dead :: .cells (Zz cS l30) :: [] : List AObj)) (fun n1 ⟨s28, i29, l30⟩ => U2 N n5 n1 s28 i29 l30) (s_0, 0, (List.replicate (n5 : Int).toNat ([] : (List UInt8)))) h (rho [0, 0]) Zc fun n1 ⟨s28, i29, l30⟩ h => ?_
 first | rw [U2] at h | simp only [U2] at h
 rw [cX] at h;apply iU h <;> intro h
 ·refine cP h Q1r p1 fun v32 h => ?_;obtain ⟨hk34, h⟩ := Q4v h;refine Q0k hk34 ?_;refine kU h fun h => ?_;obtain ⟨y36, hy37, h⟩ := Js h;refine Q0k (Q4k hy37 sd) ?_;refine Q0k (Q39 (c := cS) (e := 1) (fun _ => rfl) hy37 (off := 0) (by omega) rfl (by decide)) ?_
  refine Q31 (c := cS) (e := 1) (fun _ => rfl) hy37 ((s28.take v32.2.toNat).drop 0) (off := 0) (by first | omega | (simp only [Gi, orI, Qjs, Jr, Q27, Q6l]; omega)) rfl (by simp) ?_
  refine Q0k hk34 ?_;refine kU h fun h => ?_;show Exists _;exact ⟨(n1, ((s28.take s28.length).drop v32.2.toNat), (IntKind.wrap .i64 (i29 + 1)), ((l30 : List (List UInt8)).set (Int.toNat i29) ((s28.take v32.2.toNat).drop 0))), h, Le _, (fun i => i), Zc⟩
 apply iU h <;> intro h
 ·obtain ⟨y40, hy41, h⟩ := Js h;refine Q0k (Q4k hy41 sd) ?_;refine Q0k (Q39 (c := cS) (e := 1) (fun _ => rfl) hy41 (off := 0) (by omega) rfl (by decide)) ?_
  refine Q31 (c := cS) (e := 1) (fun _ => rfl) hy41 s28 (off := 0) (by first | omega | (simp only [Gi, orI, Qjs, Jr, Q27, Q6l]; omega)) rfl (by simp) ?_
  obtain rfl := Qb h; exact (frz_own (c := cS) (l := (((l30 : List (List UInt8)).set (Int.toNat (IntKind.wrap .i64 (n5 - 1))) s28) : List (List UInt8))) (fun _ => rfl) rfl trivial sd)
 obtain rfl := Qb h; exact (frz_own (c := cS) (l := (l30 : List (List UInt8))) (fun _ => rfl) rfl trivial sd)
def Wb (N : Nat) (s_0 : List UInt8) : Nat → (List UInt8) → Int → (List (List UInt8)) → Option (List (List UInt8))
 | 0, _, _, _ => none
 | n + 1, s36, i37, l38 =>
  cond (Q3 .lss i37 (IntKind.wrap .i64 ((ifB (decide ((IntKind.wrap .i64 ((s_0.length : Int) + 1)) < (IntKind.wrap .i64 ((Qcj s_0 (UInt8.ofNat (Int.toNat 47)) 0 : Int) + 1)))) (IntKind.wrap .i64 ((s_0.length : Int) + 1)) (IntKind.wrap .i64 ((Qcj s_0 (UInt8.ofNat (Int.toNat 47)) 0 : Int) + 1))) - 1)))
  (cond (Q4o .eql [47] s36)
  ((idx (l38 : List (List UInt8)) i37).bind fun y41 =>
  cond (Nat.ble 1 s36.length && Nat.ble s36.length s36.length) (Wb N s_0 n ((s36.take s36.length).drop 1) (IntKind.wrap .i64 (i37 + 1)) ((l38 : List (List UInt8)).set (Int.toNat i37) ((s36.take 0).drop 0))) none)
  ((Qr N s36 47).bind fun v44 =>
  cond (Q3 .lss v44 0)
  ((idx (l38 : List (List UInt8)) i37).bind fun y47 =>
  cond (decide (0 ≤ (IntKind.wrap .i64 (i37 + 1)))) (cond (Nat.ble 0 ((IntKind.wrap .i64 (i37 + 1)).toNat) && Nat.ble ((IntKind.wrap .i64 (i37 + 1)).toNat) l38.length) (some ((((l38 : List (List UInt8)).set (Int.toNat i37) s36) : List (List UInt8)).take ((IntKind.wrap .i64 (i37 + 1)).toNat))) none) none)
  (cond (decide (0 ≤ (IntKind.wrap .i64 (v44 + 0)))) (cond (Nat.ble 0 ((IntKind.wrap .i64 (v44 + 0)).toNat) && Nat.ble ((IntKind.wrap .i64 (v44 + 0)).toNat) s36.length) ((idx (l38 : List (List UInt8)) i37).bind fun y53 =>
  cond (decide (0 ≤ (IntKind.wrap .i64 (v44 + 1)))) (cond (Nat.ble (IntKind.wrap .i64 (v44 + 1)).toNat s36.length && Nat.ble s36.length s36.length) (Wb N s_0 n ((s36.take s36.length).drop ((IntKind.wrap .i64 (v44 + 1)).toNat)) (IntKind.wrap .i64 (i37 + 1)) ((l38 : List (List UInt8)).set (Int.toNat i37) ((s36.take ((IntKind.wrap .i64 (v44 + 0)).toNat)).drop 0))) none) none) none) none)))
  ((idx (l38 : List (List UInt8)) i37).bind fun y57 =>
  cond (decide (0 ≤ (IntKind.wrap .i64 (i37 + 1)))) (cond (Nat.ble 0 ((IntKind.wrap .i64 (i37 + 1)).toNat) && Nat.ble ((IntKind.wrap .i64 (i37 + 1)).toNat) l38.length) (some ((((l38 : List (List UInt8)).set (Int.toNat i37) s36) : List (List UInt8)).take ((IntKind.wrap .i64 (i37 + 1)).toNat))) none) none)
def Q1k (N : Nat) (s_0 : List UInt8) : Option (List (List UInt8)) :=
 cond (Q4o .eql [47] [])
 ((Q3n N s_0 (-1)).bind fun v2 =>
 some v2)
 (cond (decide (0 ≤ (ifB (decide ((IntKind.wrap .i64 ((s_0.length : Int) + 1)) < (IntKind.wrap .i64 ((Qcj s_0 (UInt8.ofNat (Int.toNat 47)) 0 : Int) + 1)))) (IntKind.wrap .i64 ((s_0.length : Int) + 1)) (IntKind.wrap .i64 ((Qcj s_0 (UInt8.ofNat (Int.toNat 47)) 0 : Int) + 1)))) && decide ((ifB (decide ((IntKind.wrap .i64 ((s_0.length : Int) + 1)) < (IntKind.wrap .i64 ((Qcj s_0 (UInt8.ofNat (Int.toNat 47)) 0 : Int) + 1)))) (IntKind.wrap .i64 ((s_0.length : Int) + 1)) (IntKind.wrap .i64 ((Qcj s_0 (UInt8.ofNat (Int.toNat 47)) 0 : Int) + 1))) ≤ (ifB (decide ((IntKind.wrap .i64 ((s_0.length : Int) + 1)) < (IntKind.wrap .i64 ((Qcj s_0 (UInt8.ofNat (Int.toNat 47)) 0 : Int) + 1)))) (IntKind.wrap .i64 ((s_0.length : Int) + 1)) (IntKind.wrap .i64 ((Qcj s_0 (UInt8.ofNat (Int.toNat 47)) 0 : Int) + 1)))) && decide ((ifB (decide ((IntKind.wrap .i64 ((s_0.length : Int) + 1)) < (IntKind.wrap .i64 ((Qcj s_0 (UInt8.ofNat (Int.toNat 47)) 0 : Int) + 1)))) (IntKind.wrap .i64 ((s_0.length : Int) + 1)) (IntKind.wrap .i64 ((Qcj s_0 (UInt8.ofNat (Int.toNat 47)) 0 : Int) + 1))) * 16 ≤ 1099511627776)) (Wb N s_0 N s_0 0 (List.replicate ((ifB (decide ((IntKind.wrap .i64 ((s_0.length : Int) + 1)) < (IntKind.wrap .i64 ((Qcj s_0 (UInt8.ofNat (Int.toNat 47)) 0 : Int) + 1)))) (IntKind.wrap .i64 ((s_0.length : Int) + 1)) (IntKind.wrap .i64 ((Qcj s_0 (UInt8.ofNat (Int.toNat 47)) 0 : Int) + 1))) : Int).toNat ([] : (List UInt8)))) none)
theorem Qcu {N} {s_0} {r} (h : Q1k N s_0 = some r) : pU 283 [.str s_0] (.slice 1 (Q8 cS r)) := by
 refine Q2 Z71 ?_;unfold Q1k at h;rw [cY] at h;refine Qg Z9l ?_;refine Qg Zer ?_;refine dF ?_;apply iU h <;> intro h
 ·refine cP h Q9n p2 fun v2 h => ?_;cases h; exact (.p _)
 refine dT ?_;refine Qg Zbt ?_;refine dF ?_;refine dT ?_;refine kU h fun h => ?_;refine Qz7 (c := cS) ([] : (List UInt8)) rfl ?_;refine lpC (τ := (List UInt8) × Int × (List (List UInt8))) (fun ⟨s36, i37, l38⟩ => (iS s36 :: iS [47] :: iI 0 :: .p (.int .i64 (IntKind.wrap .i64 ((ifB (decide ((IntKind.wrap .i64 ((s_0.length : Int) + 1)) < (IntKind.wrap .i64 ((Qcj s_0 (UInt8.ofNat (Int.toNat 47)) 0 : Int) + 1)))) (IntKind.wrap .i64 ((s_0.length : Int) + 1)) (IntKind.wrap .i64 ((Qcj s_0 (UInt8.ofNat (Int.toNat 47)) 0 : Int) + 1))) - 1))) :: a4 (.any :: .slice 1 1 0 l38.length :: iI i37 :: a16 (a16 (a16 (a4 (a2 (.any :: [])))))) : List AV)) (fun ⟨_, _, l38⟩ => (.dead :: .cells (Zz cS l38) :: [] : List AObj)) (fun n0 ⟨s36, i37, l38⟩ => Wb N s_0 n0 s36 i37 l38) (s_0, 0, (List.replicate ((ifB (decide ((IntKind.wrap .i64 ((s_0.length : Int) + 1)) < (IntKind.wrap .i64 ((Qcj s_0 (UInt8.ofNat (Int.toNat 47)) 0 : Int) + 1)))) (IntKind.wrap .i64 ((s_0.length : Int) + 1)) (IntKind.wrap .i64 ((Qcj s_0 (UInt8.ofNat (Int.toNat 47)) 0 : Int) + 1))) : Int).toNat ([] : (List UInt8)))) h (rho [0, 0]) Zc fun n0 ⟨s36, i37, l38⟩ h => ?_
 first | rw [Wb] at h | simp only [Wb] at h
 rw [cX, cY] at h;apply iU h <;> intro h
 ·refine Qg Z6g ?_;refine Qg Z52 ?_;refine dF ?_;apply iU h <;> intro h
  ·refine dF ?_;obtain ⟨y41, hy42, h⟩ := Js h;refine Q0k (Q4k hy42 sd) ?_;refine Q0k (Q39 (c := cS) (e := 1) (fun _ => rfl) hy42 (off := 0) (by omega) rfl (by decide)) ?_
   refine Q31 (c := cS) (e := 1) (fun _ => rfl) hy42 ((s36.take 0).drop 0) (off := 0) (by first | omega | (simp only [Gi, orI, Qjs, Jr, Q27, Q6l]; omega)) rfl (by simp) ?_
   refine kU h fun h => ?_;show Exists _;exact ⟨(n0, ((s36.take s36.length).drop 1), (IntKind.wrap .i64 (i37 + 1)), ((l38 : List (List UInt8)).set (Int.toNat i37) ((s36.take 0).drop 0))), h, Le _, (fun i => i), Zc⟩
  refine dT ?_;refine cP h W3 p2 fun v44 h => ?_;apply iU h <;> intro h
  ·obtain ⟨y47, hy48, h⟩ := Js h;refine Q0k (Q4k hy48 sd) ?_;refine Q0k (Q39 (c := cS) (e := 1) (fun _ => rfl) hy48 (off := 0) (by omega) rfl (by decide)) ?_
   refine Q31 (c := cS) (e := 1) (fun _ => rfl) hy48 s36 (off := 0) (by first | omega | (simp only [Gi, orI, Qjs, Jr, Q27, Q6l]; omega)) rfl (by simp) ?_
   refine kU h fun h => ?_;obtain ⟨hk50, h⟩ := Q4v h;refine Q0k hk50 ?_;obtain rfl := Qb h; exact (Qo2 (c := cS) (l := (((l38 : List (List UInt8)).set (Int.toNat i37) s36) : List (List UInt8))) (fun _ => rfl) rfl trivial (by have e : l38.length = (((l38 : List (List UInt8)).set (Int.toNat i37) s36) : List (List UInt8)).length := sd; simp only [La, Lk] at hk50; omega))
  refine kU h fun h => ?_;refine kU h fun h => ?_;obtain ⟨y53, hy54, h⟩ := Js h;refine Q0k (Q4k hy54 sd) ?_;refine Q0k (Q39 (c := cS) (e := 1) (fun _ => rfl) hy54 (off := 0) (by omega) rfl (by decide)) ?_
  refine Q31 (c := cS) (e := 1) (fun _ => rfl) hy54 ((s36.take ((IntKind.wrap .i64 (v44 + 0)).toNat)).drop 0) (off := 0) (by first | omega | (simp only [Gi, orI, Qjs, Jr, Q27, Q6l]; omega)) rfl (by simp) ?_
  refine kU h fun h => ?_;refine kU h fun h => ?_;show Exists _;exact ⟨(n0, ((s36.take s36.length).drop ((IntKind.wrap .i64 (v44 + 1)).toNat)), (IntKind.wrap .i64 (i37 + 1)), ((l38 : List (List UInt8)).set (Int.toNat i37) ((s36.take ((IntKind.wrap .i64 (v44 + 0)).toNat)).drop 0))), h, Le _, (fun i => i), Zc⟩
 obtain ⟨y57, hy58, h⟩ := Js h;refine Q0k (Q4k hy58 sd) ?_;refine Q0k (Q39 (c := cS) (e := 1) (fun _ => rfl) hy58 (off := 0) (by omega) rfl (by decide)) ?_
 refine Q31 (c := cS) (e := 1) (fun _ => rfl) hy58 s36 (off := 0) (by first | omega | (simp only [Gi, orI, Qjs, Jr, Q27, Q6l]; omega)) rfl (by simp) ?_
 refine kU h fun h => ?_;obtain ⟨hk60, h⟩ := Q4v h;refine Q0k hk60 ?_;obtain rfl := Qb h; exact (Qo2 (c := cS) (l := (((l38 : List (List UInt8)).set (Int.toNat i37) s36) : List (List UInt8))) (fun _ => rfl) rfl trivial (by have e : l38.length = (((l38 : List (List UInt8)).set (Int.toNat i37) s36) : List (List UInt8)).length := sd; simp only [La, Lk] at hk60; omega))
def Xy (N : Nat) (s_0 : List UInt8) : Option (Bool) :=
 (Q44 N s_0).bind fun v1 =>
 cond v1
 ((Q1k N s_0).bind fun v4 =>
 (Q1p N v4).bind fun v6 =>
 some v6)
 (some false)
theorem Jq {N} {s_0} {r} (h : Xy N s_0 = some r) : pU 225 [.str s_0] (.bool r) := by
 refine Q2 Zcf ?_;unfold Xy at h;refine cP h Q8j p1 fun v1 h => ?_;refine iR h fun h => ?_;refine cP h Qcu p1 fun v4 h => ?_;refine cP h Qd0 p1 fun v6 h => ?_;cases h; exact (.p _)
def Q07 (N : Nat) (m : Q14) : Option (Int) :=
 cond (Q3 .eql m.Type' 4)
 (cond (Q4o .neq m.Name [])
 (cond (Q3 .leq (m.Name.length : Int) 23)
 ((Qz N m.Name).bind fun v4 =>
 cond v4
 (some 0)
 (some 6))
 (some 6))
 (some 6))
 (cond (Q3 .eql m.Type' 22)
 (cond (Q3 .leq (m.Name.length : Int) 23)
 ((Qz N m.Name).bind fun v9 =>
 cond v9
 (some 0)
 (some 6))
 (some 6))
 (cond (Q3 .eql m.Type' 10)
 ((Z5 N m.Name).bind fun v13 =>
 cond v13
 (some 0)
 (some 10))
 (cond (Q3 .eql m.Type' 7)
 (cond (Q4o .eql m.Name [])
 (some 0)
 ((Z5 N m.Name).bind fun v18 =>
 cond v18
 (some 0)
 (some 10)))
 (cond (Q3 .eql m.Type' 26)
 (cond (Q4o .eql m.Name [])
 (some 0)
 ((Z5 N m.Name).bind fun v23 =>
 cond v23
 (some 0)
 (some 10)))
 (cond (Q3 .eql m.Type' 18)
 (cond (Q3 .neq m.Flags.Type' 0)
 (some 0)
 ((Xy N m.Name).bind fun v28 =>
 cond v28
 (some 0)
 (some 10)))
 (cond (Q3 .eql m.Type' 20)
 (cond (Q3 .neq m.Flags.Type' 0)
 (some 0)
 ((Xy N m.Name).bind fun v33 =>
 cond v33
 (some 0)
 (some 10)))
 (cond (Q3 .eql m.Type' 2)
 (cond (Q3 .leq (m.Name.length : Int) 16)
 (some 0)
 (some 2))
 (some 0))))))))
theorem Q5g {N} {m} {r} (h : Q07 N m = some r) : pU 173 [.agg (Q14.cells m)] (.int .i64 r) := by
 refine Q2 Zgu ?_;unfold Q07 at h;rw [cX, cY] at h;apply iU h <;> intro h
 ·refine iR h fun h => ?_;refine iR h fun h => ?_;refine cP h Zn p1 fun v4 h => ?_;exact iB h
 apply iU h <;> intro h
 ·refine iR h fun h => ?_;refine cP h Zn p1 fun v9 h => ?_;exact iB h
 apply iU h <;> intro h
 ·refine cP h Yi p1 fun v13 h => ?_;exact iB h
 refine ifO h (fun hc16 h => ?_) (fun hc16 h => ?_)
 ·refine ifT hc16 ?_;refine iL h fun h => ?_;refine cP h Yi p1 fun v18 h => ?_;exact iB h
 apply iU h <;> intro h
 ·refine iL h fun h => ?_;refine cP h Yi p1 fun v23 h => ?_;exact iB h
 refine ifO h (fun hc26 h => ?_) (fun hc26 h => ?_)
 ·refine ifT hc26 ?_;refine iL h fun h => ?_;refine cP h Jq p1 fun v28 h => ?_;exact iB h
 apply iU h <;> intro h
 ·refine iL h fun h => ?_;refine cP h Jq p1 fun v33 h => ?_;exact iB h
 refine iR h fun h => ?_;exact iB h
def Vi (N : Nat) (kind : Int) (rest : Int) : Option ((List UInt8) × Int) :=
 (Jg N kind).bind fun v1 =>
 cond (!v1)
 (some ([], 8))
 (cond (Q3 .lss rest 0)
 (some ([], 2))
 (cond (Q3 .gtr rest 65531)
 (some ([], 4))
 (cond (Q3 .leq (IntKind.wrap .i64 (rest + 2)) 255)
 ((Qk N (IntKind.wrap .u64 (IntKind.wrap .i64 (rest + 2))) 1).bind fun v7 =>
 (Qk N (IntKind.wrap .u64 kind) 1).bind fun v9 =>
 cond (Nat.ble (v7.length + v9.length) 4611686018427387904) (some ((v7 ++ v9), 0)) none)
 ((Qk N 1 1).bind fun v12 =>
 (Qk N (IntKind.wrap .u64 (IntKind.wrap .i64 (rest + 4))) 2).bind fun v14 =>
 cond (Nat.ble (v12.length + v14.length) 4611686018427387904) ((Qk N (IntKind.wrap .u64 kind) 1).bind fun v17 =>
 cond (Nat.ble ((v12 ++ v14).length + v17.length) 4611686018427387904) (some (((v12 ++ v14) ++ v17), 0)) none) none))))
theorem Q0z {N} {kind} {rest} {r} (h : Vi N kind rest = some r) : pU 135 [.int .i64 kind, .int .i64 rest] (.tuple [.str r.1, .int .i64 r.2]) := by
 refine Q2 Z6f ?_;unfold Vi at h;rw [cX] at h;refine cP h Q6n p1 fun v1 h => ?_;refine iL2 h fun h => ?_;refine iL2 h fun h => ?_;refine iL2 h fun h => ?_;apply iU h <;> intro h
 ·refine cP h Qf p2 fun v7 h => ?_;refine cP h Qf p2 fun v9 h => ?_;refine kU h fun h => ?_;obtain rfl := Qb h; exact u2
 refine cP h Qf p2 fun v12 h => ?_;refine cP h Qf p2 fun v14 h => ?_;refine kU h fun h => ?_;refine cP h Qf p2 fun v17 h => ?_;refine kU h fun h => ?_;obtain rfl := Qb h; exact u2
end
end
end Go.Av
