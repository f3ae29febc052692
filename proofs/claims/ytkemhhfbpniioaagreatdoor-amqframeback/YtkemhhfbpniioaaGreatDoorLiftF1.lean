/- The law. Part of a proof of a given statement: for every input the law returns true and the arguments read as before; no condition beyond the given row. -/
import Derived.Test.YtkemhhfbpniioaaGreatDoorLiftF0
namespace Go.Av
noncomputable section
open Go.Proofs
set_option maxRecDepth 100000
set_option maxHeartbeats 4000000
attribute [local irreducible] Ws Yj Q4y Q5p Q8 Q6o Q6k
section
def Yx (rz : Q0 → Option (Q1)) (N : Nat) (v : Q0) : Nat → Int → (List Q1) → Option (Q1)
 | 0, _, _ => none
 | n + 1, s14, l15 =>
  cond (Q8 .lss s14 ((Q0.rows v.Items).length : Int))
  ((idx v.Items s14).bind fun y17 =>
  (rz y17).bind fun v19 =>
  cond (Nat.ble ((l15.length + 1 + 4096) * 96) 17592186044416) (Yx rz N v n (IntKind.wrap .i64 (s14 + 1)) (l15 ++ [v19])) none)
  (cond (Q8 .eql v.Kind 24)
  ((Xt N (IntKind.wrap .i64 v.N') l15).bind fun v23 =>
  cond ((v.Kind : Int) == 22)
  ((Z9 N (⟨v, l15, v23, 0⟩ : Q1)).bind fun v26 =>
  some (⟨v, l15, v23, v26⟩ : Q1))
  (cond ((v.Kind : Int) == 23)
  ((Z9 N (⟨v, l15, v23, 0⟩ : Q1)).bind fun v29 =>
  some (⟨v, l15, v23, v29⟩ : Q1))
  (cond ((v.Kind : Int) == 24)
  ((Xa N (⟨v, l15, v23, 0⟩ : Q1)).bind fun v32 =>
  some (⟨v, l15, v23, v32⟩ : Q1))
  (some (⟨v, l15, v23, 0⟩ : Q1)))))
  (cond ((v.Kind : Int) == 22)
  ((Z9 N (⟨v, l15, 0, 0⟩ : Q1)).bind fun v35 =>
  some (⟨v, l15, 0, v35⟩ : Q1))
  (cond ((v.Kind : Int) == 23)
  ((Z9 N (⟨v, l15, 0, 0⟩ : Q1)).bind fun v38 =>
  some (⟨v, l15, 0, v38⟩ : Q1))
  (cond ((v.Kind : Int) == 24)
  ((Xa N (⟨v, l15, 0, 0⟩ : Q1)).bind fun v41 =>
  some (⟨v, l15, 0, v41⟩ : Q1))
  (some (⟨v, l15, 0, 0⟩ : Q1))))))
def J7 (rz : Q0 → Option (Q1)) (N : Nat) (v : Q0) : Option (Q1) :=
 Yx rz N v N 0 []
theorem Q2y {rz : Q0 → Option (Q1)} (hy1 : ∀ {v} {r}, rz v = some r → Zs Tryz.prog G1 63 [.agg (Q0.cells v)] (.agg (Q1.cells r))) {N} {v} {r} (h : J7 rz N v = some r) : Zs Tryz.prog G1 63 [.agg (Q0.cells v)] (.agg (Q1.cells r)) := by
 refine Q6 k63 ?_
 unfold J7 at h
 refine lpC (τ := Int × (List Q1)) (fun ⟨s14, _⟩ => (.any :: .ptr 0 0 :: .ptr 1 0 :: .ptr 2 0 :: a8 (.p (.slice 4 (Q0.rows v.Items)) :: iI ((Q0.rows v.Items).length : Int) :: iI s14 :: a16 (a16 (a4 ([])))) : List AV)) (fun ⟨_, l15⟩ => (.cells (iI v.Kind :: iW v.N' :: iS v.Text :: .p (.slice 4 (Q0.rows v.Items)) :: []) :: .cells (iI 0 :: iW 0 :: iS [] :: .p .nilSlice :: .p .nilSlice :: iI 0 :: iI 0 :: []) :: .cells (iI v.Kind :: iW v.N' :: iS v.Text :: .p (.slice 4 (Q0.rows v.Items)) :: .slice 7 3 0 l15.length :: iI 0 :: iI 0 :: []) :: .cells (Yk Q1.cells l15) :: [] : List AObj)) (fun n0 ⟨s14, l15⟩ => Yx rz N v n0 s14 l15) (0, []) h (fun i => i) ⟨(rA <| rE rfl <| rE rfl <| rE rfl <| rX <| rE rfl <| rE rfl <| rE rfl <| rX <| rX <| rX <| rX <| rV <| rN), (hE rfl <| hE rfl <| hC rfl (rE rfl <| rE rfl <| rE rfl <| rE rfl <| rS <| rE rfl <| rE rfl <| rN) <| hV lb <| hN), rfl, rfl, (roE rfl <| roE rfl <| roE rfl <| roE (Qa _ _ _) <| roN)⟩ fun n0 ⟨s14, l15⟩ h => ?_
 simp only [Yx] at h
 apply iU h <;> intro h
 ·refine Q0.xR h fun y17 h => ?_
  refine Qk ?_
  refine cD h hy1 (.cons q4 .nil) fun v19 h => ?_
  obtain ⟨hk21, h⟩ := Q2l h
  refine Q1d (Xv (c := Q1.cells) (e := 7) (fun _ => rfl) (by simp) hk21) ?_
  refine Vd (c := Q1.cells) [v19] rfl ?_
  show Exists _
  exact ⟨(n0, (IntKind.wrap .i64 (s14 + 1)), (l15 ++ [v19])), h, Nat.lt_succ_self _, (rho [0, 1, 2, 6]), ⟨(rA <| rE rfl <| rE rfl <| rE rfl <| rX <| rE rfl <| rE rfl <| rE rfl <| rX <| rX <| rX <| rX <| rV <| rN), (hE rfl <| hE rfl <| hC rfl (rE rfl <| rE rfl <| rE rfl <| rE rfl <| rL (by simp) rfl <| rE rfl <| rE rfl <| rN) <| hO rfl <| hN), rfl, rfl, (roE rfl <| roE rfl <| roE rfl <| roE (Qa _ _ _) <| roN)⟩⟩
 ·apply iU h <;> intro h
  ·refine cK h Gq (.cons (.p _) (.cons (Q1.frz_own (l := l15) rfl trivial (by simp)) .nil)) fun v23 h => ?_
   apply iU h <;> intro h
   ·refine cK h Xn (.cons (Frz.agg' (.cons (.p _) (.cons (.p _) (.cons (.p _) (.cons (.p _) (.cons (Q1.frz_own (l := l15) rfl trivial (by simp)) p2)))))) .nil) fun v26 h => ?_
    obtain rfl := Qd h; exact (Frz.agg' (.cons (.p _) (.cons (.p _) (.cons (.p _) (.cons (.p _) (.cons (Q1.frz_own (l := l15) rfl trivial (by simp)) p2))))))
   ·apply iU h <;> intro h
    ·refine cK h Xn (.cons (Frz.agg' (.cons (.p _) (.cons (.p _) (.cons (.p _) (.cons (.p _) (.cons (Q1.frz_own (l := l15) rfl trivial (by simp)) p2)))))) .nil) fun v29 h => ?_
     obtain rfl := Qd h; exact (Frz.agg' (.cons (.p _) (.cons (.p _) (.cons (.p _) (.cons (.p _) (.cons (Q1.frz_own (l := l15) rfl trivial (by simp)) p2))))))
    ·apply iU h <;> intro h
     ·refine cK h Uo (.cons (Frz.agg' (.cons (.p _) (.cons (.p _) (.cons (.p _) (.cons (.p _) (.cons (Q1.frz_own (l := l15) rfl trivial (by simp)) p2)))))) .nil) fun v32 h => ?_
      obtain rfl := Qd h; exact (Frz.agg' (.cons (.p _) (.cons (.p _) (.cons (.p _) (.cons (.p _) (.cons (Q1.frz_own (l := l15) rfl trivial (by simp)) p2))))))
     ·obtain rfl := Qd h; exact (Frz.agg' (.cons (.p _) (.cons (.p _) (.cons (.p _) (.cons (.p _) (.cons (Q1.frz_own (l := l15) rfl trivial (by simp)) p2))))))
  ·apply iU h <;> intro h
   ·refine cK h Xn (.cons (Frz.agg' (.cons (.p _) (.cons (.p _) (.cons (.p _) (.cons (.p _) (.cons (Q1.frz_own (l := l15) rfl trivial (by simp)) p2)))))) .nil) fun v35 h => ?_
    obtain rfl := Qd h; exact (Frz.agg' (.cons (.p _) (.cons (.p _) (.cons (.p _) (.cons (.p _) (.cons (Q1.frz_own (l := l15) rfl trivial (by simp)) p2))))))
   ·apply iU h <;> intro h
    ·refine cK h Xn (.cons (Frz.agg' (.cons (.p _) (.cons (.p _) (.cons (.p _) (.cons (.p _) (.cons (Q1.frz_own (l := l15) rfl trivial (by simp)) p2)))))) .nil) fun v38 h => ?_
     obtain rfl := Qd h; exact (Frz.agg' (.cons (.p _) (.cons (.p _) (.cons (.p _) (.cons (.p _) (.cons (Q1.frz_own (l := l15) rfl trivial (by simp)) p2))))))
    ·apply iU h <;> intro h
     ·refine cK h Uo (.cons (Frz.agg' (.cons (.p _) (.cons (.p _) (.cons (.p _) (.cons (.p _) (.cons (Q1.frz_own (l := l15) rfl trivial (by simp)) p2)))))) .nil) fun v41 h => ?_
      obtain rfl := Qd h; exact (Frz.agg' (.cons (.p _) (.cons (.p _) (.cons (.p _) (.cons (.p _) (.cons (Q1.frz_own (l := l15) rfl trivial (by simp)) p2))))))
     ·obtain rfl := Qd h; exact (Frz.agg' (.cons (.p _) (.cons (.p _) (.cons (.p _) (.cons (.p _) (.cons (Q1.frz_own (l := l15) rfl trivial (by simp)) p2))))))
def X6 : Nat → Q0 → Option (Q1)
 | 0 => fun _ => none
 | N + 1 => J7 (X6 N) N
theorem Jt {N} {v} {r} (h : X6 N v = some r) : Zs Tryz.prog G1 63 [.agg (Q0.cells v)] (.agg (Q1.cells r)) := by
 induction N generalizing v r with
 | zero => simp [X6] at h
 | succ N ih => exact Q2y (fun h => ih h) h
def Vc (N : Nat) (v : Q0) (most : Int) : Option ((List UInt8) × Int) :=
 (Xx N v most).bind fun v1 =>
 cond (Q8 .neq v1 0)
 (some ([], v1))
 ((Yb N v).bind fun v4 =>
 (X6 N v4).bind fun v6 =>
 (Z1 N (⟨(⟨[]⟩ : Qo)⟩ : Q2) v6).bind fun v8 =>
 (Xh N v8.2.buffer).bind fun v10 =>
 some (v10.1, 0))
theorem Q3g {N} {v} {most} {r} (h : Vc N v most = some r) : Zs Tryz.prog G1 17 [.agg (Q0.cells v), .int .i64 most] (.tuple [.str r.1, .int .i64 r.2]) := by
 refine Q6 k17 ?_
 unfold Vc at h
 refine cP h Uj (.cons q4 p1) fun v1 h => ?_
 apply iU h <;> intro h
 ·obtain rfl := Qd h; exact u2
 ·refine cP h Ux (.cons q4 .nil) fun v4 h => ?_
  refine cP h Jt p1 fun v6 h => ?_
  refine cG h Gr fun v8 h => ?_
  refine ⟨rho [1, 3], (.cells (iI v.Kind :: iW v.N' :: iS v.Text :: .p (.slice 4 (Q0.rows v.Items)) :: []) :: .cells (.slice 1 2 0 v8.2.buffer.b.length :: []) :: .cells (Yk (cI .u8) v8.2.buffer.b) :: []), .tuple [], ⟨(rE rfl <| rE rfl <| rN), (hC rfl (rS <| rN) <| hV lb <| hN), rfl, rfl, (roE rfl <| roE (Qa _ _ _) <| roN), rfl, (fK rfl rfl <| fR 0 rfl rfl rfl rfl <| fO 2 rfl rfl rfl <| fN), rfl⟩, ?_⟩
  refine cG h Ge fun v10 h => ?_
  refine ⟨rho [1, 2], (.cells (iI v.Kind :: iW v.N' :: iS v.Text :: .p (.slice 4 (Q0.rows v.Items)) :: []) :: .cells (.slice 1 3 0 v10.2.b.length :: []) :: .dead :: .cells (Yk (cI .u8) v10.2.b) :: []), iS v10.1, ⟨(rE rfl <| rN), (hE rfl <| hO rfl <| hN), rfl, rfl, (roE rfl <| roE (Qa _ _ _) <| roN), rfl, (fK rfl rfl <| fR 0 rfl rfl rfl rfl <| fD <| fO 2 rfl rfl rfl <| fN), rfl⟩, ?_⟩
  obtain rfl := Qd h; exact u2
end
end
end Go.Av
