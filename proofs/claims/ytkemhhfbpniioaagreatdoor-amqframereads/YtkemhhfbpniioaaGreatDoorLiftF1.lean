/- The law. Part of a proof of a given statement: for every input the law returns true and the arguments read as before; no condition beyond the given row. -/
import Derived.Test.YtkemhhfbpniioaaGreatDoorLiftF0
namespace Go.Av
noncomputable section
open Go.Proofs
set_option maxRecDepth 100000
set_option maxHeartbeats 4000000
attribute [local irreducible] V9 X0 Q56 Q6j Q9 Q7t Q7s
section
def Xc (rz : Q0 → Option (Q1)) (N : Nat) (v : Q0) : Nat → Int → (List Q1) → Option (Q1)
 | 0, _, _ => none
 | n + 1, s14, l15 =>
  cond (Q9 .lss s14 ((Q0.rows v.Items).length : Int))
  ((idx v.Items s14).bind fun y17 =>
  (rz y17).bind fun v19 =>
  cond (Nat.ble ((l15.length + 1 + 4096) * 96) 17592186044416) (Xc rz N v n (IntKind.wrap .i64 (s14 + 1)) (l15 ++ [v19])) none)
  (cond (Q9 .eql v.Kind 24)
  ((Wa N (IntKind.wrap .i64 v.N') l15).bind fun v23 =>
  cond ((v.Kind : Int) == 22)
  ((Zd N (⟨v, l15, v23, 0⟩ : Q1)).bind fun v26 =>
  some (⟨v, l15, v23, v26⟩ : Q1))
  (cond ((v.Kind : Int) == 23)
  ((Zd N (⟨v, l15, v23, 0⟩ : Q1)).bind fun v29 =>
  some (⟨v, l15, v23, v29⟩ : Q1))
  (cond ((v.Kind : Int) == 24)
  ((Xy N (⟨v, l15, v23, 0⟩ : Q1)).bind fun v32 =>
  some (⟨v, l15, v23, v32⟩ : Q1))
  (some (⟨v, l15, v23, 0⟩ : Q1)))))
  (cond ((v.Kind : Int) == 22)
  ((Zd N (⟨v, l15, 0, 0⟩ : Q1)).bind fun v35 =>
  some (⟨v, l15, 0, v35⟩ : Q1))
  (cond ((v.Kind : Int) == 23)
  ((Zd N (⟨v, l15, 0, 0⟩ : Q1)).bind fun v38 =>
  some (⟨v, l15, 0, v38⟩ : Q1))
  (cond ((v.Kind : Int) == 24)
  ((Xy N (⟨v, l15, 0, 0⟩ : Q1)).bind fun v41 =>
  some (⟨v, l15, 0, v41⟩ : Q1))
  (some (⟨v, l15, 0, 0⟩ : Q1))))))
def Jx (rz : Q0 → Option (Q1)) (N : Nat) (v : Q0) : Option (Q1) :=
 Xc rz N v N 0 []
theorem Q3r {rz : Q0 → Option (Q1)} (hy1 : ∀ {v} {r}, rz v = some r → Zx Tryz.prog G1 63 [.agg (Q0.cells v)] (.agg (Q1.cells r))) {N} {v} {r} (h : Jx rz N v = some r) : Zx Tryz.prog G1 63 [.agg (Q0.cells v)] (.agg (Q1.cells r)) := by
 refine Q6 k63 ?_
 unfold Jx at h
 refine lpC (τ := Int × (List Q1)) (fun ⟨s14, _⟩ => (.any :: .ptr 0 0 :: .ptr 1 0 :: .ptr 2 0 :: a8 (.p (.slice 4 (Q0.rows v.Items)) :: iI ((Q0.rows v.Items).length : Int) :: iI s14 :: a16 (a16 (a4 ([])))) : List AV)) (fun ⟨_, l15⟩ => (.cells (iI v.Kind :: iW v.N' :: iS v.Text :: .p (.slice 4 (Q0.rows v.Items)) :: []) :: .cells (iI 0 :: iW 0 :: iS [] :: .p .nilSlice :: .p .nilSlice :: iI 0 :: iI 0 :: []) :: .cells (iI v.Kind :: iW v.N' :: iS v.Text :: .p (.slice 4 (Q0.rows v.Items)) :: .slice 7 3 0 l15.length :: iI 0 :: iI 0 :: []) :: .cells (Yk Q1.cells l15) :: [] : List AObj)) (fun n0 ⟨s14, l15⟩ => Xc rz N v n0 s14 l15) (0, []) h (fun i => i) ⟨(rA <| rE rfl <| rE rfl <| rE rfl <| rX <| rE rfl <| rE rfl <| rE rfl <| rX <| rX <| rX <| rX <| rV <| rN), (hE rfl <| hE rfl <| hC rfl (rE rfl <| rE rfl <| rE rfl <| rE rfl <| rS <| rE rfl <| rE rfl <| rN) <| hV lb <| hN), rfl, rfl, (roE rfl <| roE rfl <| roE rfl <| roE (Q7 _ _ _) <| roN)⟩ fun n0 ⟨s14, l15⟩ h => ?_
 simp only [Xc] at h
 apply iU h <;> intro h
 ·refine Q0.xR h fun y17 h => ?_
  refine Qh ?_
  refine cD h hy1 (.cons q4 .nil) fun v19 h => ?_
  obtain ⟨hk21, h⟩ := Q31 h
  refine Q26 (Xo (c := Q1.cells) (e := 7) (fun _ => rfl) (by simp) hk21) ?_
  refine Vh (c := Q1.cells) [v19] rfl ?_
  show Exists _
  exact ⟨(n0, (IntKind.wrap .i64 (s14 + 1)), (l15 ++ [v19])), h, Nat.lt_succ_self _, (rho [0, 1, 2, 6]), ⟨(rA <| rE rfl <| rE rfl <| rE rfl <| rX <| rE rfl <| rE rfl <| rE rfl <| rX <| rX <| rX <| rX <| rV <| rN), (hE rfl <| hE rfl <| hC rfl (rE rfl <| rE rfl <| rE rfl <| rE rfl <| rL (by simp) rfl <| rE rfl <| rE rfl <| rN) <| hO rfl <| hN), rfl, rfl, (roE rfl <| roE rfl <| roE rfl <| roE (Q7 _ _ _) <| roN)⟩⟩
 ·apply iU h <;> intro h
  ·refine cK h Q01 (.cons (.p _) (.cons (Q1.frz_own (l := l15) rfl trivial (by simp)) .nil)) fun v23 h => ?_
   apply iU h <;> intro h
   ·refine cK h W3 (.cons (Frz.agg' (.cons (.p _) (.cons (.p _) (.cons (.p _) (.cons (.p _) (.cons (Q1.frz_own (l := l15) rfl trivial (by simp)) p2)))))) .nil) fun v26 h => ?_
    obtain rfl := Qb h; exact (Frz.agg' (.cons (.p _) (.cons (.p _) (.cons (.p _) (.cons (.p _) (.cons (Q1.frz_own (l := l15) rfl trivial (by simp)) p2))))))
   ·apply iU h <;> intro h
    ·refine cK h W3 (.cons (Frz.agg' (.cons (.p _) (.cons (.p _) (.cons (.p _) (.cons (.p _) (.cons (Q1.frz_own (l := l15) rfl trivial (by simp)) p2)))))) .nil) fun v29 h => ?_
     obtain rfl := Qb h; exact (Frz.agg' (.cons (.p _) (.cons (.p _) (.cons (.p _) (.cons (.p _) (.cons (Q1.frz_own (l := l15) rfl trivial (by simp)) p2))))))
    ·apply iU h <;> intro h
     ·refine cK h J7 (.cons (Frz.agg' (.cons (.p _) (.cons (.p _) (.cons (.p _) (.cons (.p _) (.cons (Q1.frz_own (l := l15) rfl trivial (by simp)) p2)))))) .nil) fun v32 h => ?_
      obtain rfl := Qb h; exact (Frz.agg' (.cons (.p _) (.cons (.p _) (.cons (.p _) (.cons (.p _) (.cons (Q1.frz_own (l := l15) rfl trivial (by simp)) p2))))))
     ·obtain rfl := Qb h; exact (Frz.agg' (.cons (.p _) (.cons (.p _) (.cons (.p _) (.cons (.p _) (.cons (Q1.frz_own (l := l15) rfl trivial (by simp)) p2))))))
  ·apply iU h <;> intro h
   ·refine cK h W3 (.cons (Frz.agg' (.cons (.p _) (.cons (.p _) (.cons (.p _) (.cons (.p _) (.cons (Q1.frz_own (l := l15) rfl trivial (by simp)) p2)))))) .nil) fun v35 h => ?_
    obtain rfl := Qb h; exact (Frz.agg' (.cons (.p _) (.cons (.p _) (.cons (.p _) (.cons (.p _) (.cons (Q1.frz_own (l := l15) rfl trivial (by simp)) p2))))))
   ·apply iU h <;> intro h
    ·refine cK h W3 (.cons (Frz.agg' (.cons (.p _) (.cons (.p _) (.cons (.p _) (.cons (.p _) (.cons (Q1.frz_own (l := l15) rfl trivial (by simp)) p2)))))) .nil) fun v38 h => ?_
     obtain rfl := Qb h; exact (Frz.agg' (.cons (.p _) (.cons (.p _) (.cons (.p _) (.cons (.p _) (.cons (Q1.frz_own (l := l15) rfl trivial (by simp)) p2))))))
    ·apply iU h <;> intro h
     ·refine cK h J7 (.cons (Frz.agg' (.cons (.p _) (.cons (.p _) (.cons (.p _) (.cons (.p _) (.cons (Q1.frz_own (l := l15) rfl trivial (by simp)) p2)))))) .nil) fun v41 h => ?_
      obtain rfl := Qb h; exact (Frz.agg' (.cons (.p _) (.cons (.p _) (.cons (.p _) (.cons (.p _) (.cons (Q1.frz_own (l := l15) rfl trivial (by simp)) p2))))))
     ·obtain rfl := Qb h; exact (Frz.agg' (.cons (.p _) (.cons (.p _) (.cons (.p _) (.cons (.p _) (.cons (Q1.frz_own (l := l15) rfl trivial (by simp)) p2))))))
def Xk : Nat → Q0 → Option (Q1)
 | 0 => fun _ => none
 | N + 1 => Jx (Xk N) N
theorem Ga {N} {v} {r} (h : Xk N v = some r) : Zx Tryz.prog G1 63 [.agg (Q0.cells v)] (.agg (Q1.cells r)) := by
 induction N generalizing v r with
 | zero => simp [Xk] at h
 | succ N ih => exact Q3r (fun h => ih h) h
def Vy (N : Nat) (v : Q0) (most : Int) : Option ((List UInt8) × Int) :=
 (We N v most).bind fun v1 =>
 cond (Q9 .neq v1 0)
 (some ([], v1))
 ((Yr N v).bind fun v4 =>
 (Xk N v4).bind fun v6 =>
 (Z3 N (⟨(⟨[]⟩ : Qp)⟩ : Q2) v6).bind fun v8 =>
 (W0 N v8.2.buffer).bind fun v10 =>
 some (v10.1, 0))
theorem Q4j {N} {v} {most} {r} (h : Vy N v most = some r) : Zx Tryz.prog G1 17 [.agg (Q0.cells v), .int .i64 most] (.tuple [.str r.1, .int .i64 r.2]) := by
 refine Q6 k17 ?_
 unfold Vy at h
 refine cP h J0 (.cons q4 p1) fun v1 h => ?_
 apply iU h <;> intro h
 ·obtain rfl := Qb h; exact u2
 ·refine cP h J9 (.cons q4 .nil) fun v4 h => ?_
  refine cP h Ga p1 fun v6 h => ?_
  refine cG h Q0e fun v8 h => ?_
  refine ⟨rho [1, 3], (.cells (iI v.Kind :: iW v.N' :: iS v.Text :: .p (.slice 4 (Q0.rows v.Items)) :: []) :: .cells (.slice 1 2 0 v8.2.buffer.b.length :: []) :: .cells (Yk (cI .u8) v8.2.buffer.b) :: []), .tuple [], ⟨(rE rfl <| rE rfl <| rN), (hC rfl (rS <| rN) <| hV lb <| hN), rfl, rfl, (roE rfl <| roE (Q7 _ _ _) <| roN), rfl, (fK rfl rfl <| fR 0 rfl rfl rfl rfl <| fO 2 rfl rfl rfl <| fN), rfl⟩, ?_⟩
  refine cG h Gv fun v10 h => ?_
  refine ⟨rho [1, 2], (.cells (iI v.Kind :: iW v.N' :: iS v.Text :: .p (.slice 4 (Q0.rows v.Items)) :: []) :: .cells (.slice 1 3 0 v10.2.b.length :: []) :: .dead :: .cells (Yk (cI .u8) v10.2.b) :: []), iS v10.1, ⟨(rE rfl <| rN), (hE rfl <| hO rfl <| hN), rfl, rfl, (roE rfl <| roE (Q7 _ _ _) <| roN), rfl, (fK rfl rfl <| fR 0 rfl rfl rfl rfl <| fD <| fO 2 rfl rfl rfl <| fN), rfl⟩, ?_⟩
  obtain rfl := Qb h; exact u2
def Zc (rv : Q0 → Option (Q0)) (N : Nat) (v : Q0) : Nat → Int → (List Q0) → Option (Q0)
 | 0, _, _ => none
 | n + 1, i14, l15 =>
  cond (Q9 .lss i14 ((Q0.rows v.Items).length : Int))
  ((idx v.Items i14).bind fun y17 =>
  (rv y17).bind fun v19 =>
  cond (Nat.ble ((l15.length + 1 + 4096) * 56) 17592186044416) (Zc rv N v n (IntKind.wrap .i64 (i14 + 1)) (l15 ++ [v19])) none)
  (some (⟨v.Kind, v.N', v.Text, l15⟩ : Q0))
def Wh (rv : Q0 → Option (Q0)) (N : Nat) (v : Q0) : Option (Q0) :=
 Zc rv N v N 0 []
theorem Q1t {rv : Q0 → Option (Q0)} (hx1 : ∀ {v} {r}, rv v = some r → Zx Tryz.prog G1 76 [.agg (Q0.cells v)] (.agg (Q0.cells r))) {N} {v} {r} (h : Wh rv N v = some r) : Zx Tryz.prog G1 76 [.agg (Q0.cells v)] (.agg (Q0.cells r)) := by
 refine Q6 k76 ?_
 unfold Wh at h
 refine lpC (τ := Int × (List Q0)) (fun ⟨i14, _⟩ => (.any :: .ptr 0 0 :: .ptr 1 0 :: .ptr 2 0 :: iI i14 :: a16 (a8 (a2 ([]))) : List AV)) (fun ⟨_, l15⟩ => (.cells (iI v.Kind :: iW v.N' :: iS v.Text :: .p (.slice 4 (Q0.rows v.Items)) :: []) :: .cells (iI 0 :: iW 0 :: iS [] :: .p .nilSlice :: []) :: .cells (iI v.Kind :: iW v.N' :: iS v.Text :: .slice 4 3 0 l15.length :: []) :: .cells (Yk Q0.cells l15) :: [] : List AObj)) (fun n0 ⟨i14, l15⟩ => Zc rv N v n0 i14 l15) (0, []) h (fun i => i) ⟨(rA <| rE rfl <| rE rfl <| rE rfl <| rE rfl <| rX <| rX <| rX <| rW <| rN), (hE rfl <| hE rfl <| hC rfl (rE rfl <| rE rfl <| rE rfl <| rS <| rN) <| hV lb <| hN), rfl, rfl, (roE rfl <| roE rfl <| roE rfl <| roE (Q7 _ _ _) <| roN)⟩ fun n0 ⟨i14, l15⟩ h => ?_
 simp only [Zc] at h
 apply iU h <;> intro h
 ·refine Qh ?_
  refine Q0.xR h fun y17 h => ?_
  refine cD h hx1 (.cons q4 .nil) fun v19 h => ?_
  obtain ⟨hk21, h⟩ := Q31 h
  refine Q26 (Xo (c := Q0.cells) (e := 4) (fun _ => rfl) (by simp) hk21) ?_
  refine Vh (c := Q0.cells) [v19] rfl ?_
  show Exists _
  exact ⟨(n0, (IntKind.wrap .i64 (i14 + 1)), (l15 ++ [v19])), h, Nat.lt_succ_self _, (rho [0, 1, 2, 5]), ⟨(rA <| rE rfl <| rE rfl <| rE rfl <| rE rfl <| rX <| rX <| rX <| rW <| rN), (hE rfl <| hE rfl <| hC rfl (rE rfl <| rE rfl <| rE rfl <| rL (by simp) rfl <| rN) <| hO rfl <| hN), rfl, rfl, (roE rfl <| roE rfl <| roE rfl <| roE (Q7 _ _ _) <| roN)⟩⟩
 ·obtain rfl := Qb h; exact (Frz.agg' (.cons (.p _) (.cons (.p _) (.cons (.p _) (.cons (Q0.frz_own (l := l15) rfl trivial (by simp)) .nil)))))
def Y1 : Nat → Q0 → Option (Q0)
 | 0 => fun _ => none
 | N + 1 => Wh (Y1 N) N
theorem Q1z {N} {v} {r} (h : Y1 N v = some r) : Zx Tryz.prog G1 76 [.agg (Q0.cells v)] (.agg (Q0.cells r)) := by
 induction N generalizing v r with
 | zero => simp [Y1] at h
 | succ N ih => exact Q1t (fun h => ih h) h
theorem Q12 {rv : Q0 → Option (Q0)} (hx1 : ∀ {v} {r}, rv v = some r → Zx Tryz.prog G1 76 [.agg (Q0.cells v)] (.agg (Q0.cells r))) {N} {v} {r} (h : Wh rv N v = some r) : GC Tryz.prog G1 76 (.p (.agg (Q0.cells v)) :: []) [] (.agg [.p (.int .i64 r.Kind), .p (.int .u64 r.N'), .p (.str r.Text), .slice 4 0 0 r.Items.length]) (.cells (Yk Q0.cells r.Items) :: []) := by
 refine Q0p k76 (Nat.le_of_ble_eq_true rfl) ?_
 unfold Wh at h
 refine lpC (τ := Int × (List Q0)) (fun ⟨i14, _⟩ => (.any :: .ptr 0 0 :: .ptr 1 0 :: .ptr 2 0 :: iI i14 :: a16 (a8 (a2 ([]))) : List AV)) (fun ⟨_, l15⟩ => (.cells (iI v.Kind :: iW v.N' :: iS v.Text :: .p (.slice 4 (Q0.rows v.Items)) :: []) :: .cells (iI 0 :: iW 0 :: iS [] :: .p .nilSlice :: []) :: .cells (iI v.Kind :: iW v.N' :: iS v.Text :: .slice 4 3 0 l15.length :: []) :: .cells (Yk Q0.cells l15) :: [] : List AObj)) (fun n0 ⟨i14, l15⟩ => Zc rv N v n0 i14 l15) (0, []) h (fun i => i) ⟨(rA <| rE rfl <| rE rfl <| rE rfl <| rE rfl <| rX <| rX <| rX <| rW <| rN), (hE rfl <| hE rfl <| hC rfl (rE rfl <| rE rfl <| rE rfl <| rS <| rN) <| hV lb <| hN), rfl, rfl, (roE rfl <| roE rfl <| roE rfl <| roE (Q7 _ _ _) <| roN)⟩ fun n0 ⟨i14, l15⟩ h => ?_
 simp only [Zc] at h
 apply iU h <;> intro h
 ·refine Qh ?_
  refine Q0.xR h fun y17 h => ?_
  refine cD h hx1 (.cons q4 .nil) fun v19 h => ?_
  obtain ⟨hk21, h⟩ := Q31 h
  refine Q26 (Xo (c := Q0.cells) (e := 4) (fun _ => rfl) (by simp) hk21) ?_
  refine Vh (c := Q0.cells) [v19] rfl ?_
  show Exists _
  exact ⟨(n0, (IntKind.wrap .i64 (i14 + 1)), (l15 ++ [v19])), h, Nat.lt_succ_self _, (rho [0, 1, 2, 5]), ⟨(rA <| rE rfl <| rE rfl <| rE rfl <| rE rfl <| rX <| rX <| rX <| rW <| rN), (hE rfl <| hE rfl <| hC rfl (rE rfl <| rE rfl <| rE rfl <| rL (by simp) rfl <| rN) <| hO rfl <| hN), rfl, rfl, (roE rfl <| roE rfl <| roE rfl <| roE (Q7 _ _ _) <| roN)⟩⟩
 ·obtain rfl := Qb h
  show Exists _
  exact ⟨(rho [3]), ⟨(rG (rE rfl <| rE rfl <| rE rfl <| rE rfl <| rN) <| rN), (hO rfl <| hN), rfl, rfl, (roE (Q7 _ _ _) <| roN)⟩⟩
theorem Q1c {N} {v} {r} (h : Y1 N v = some r) : GC Tryz.prog G1 76 (.p (.agg (Q0.cells v)) :: []) [] (.agg [.p (.int .i64 r.Kind), .p (.int .u64 r.N'), .p (.str r.Text), .slice 4 0 0 r.Items.length]) (.cells (Yk Q0.cells r.Items) :: []) := by
 cases N with
 | zero => simp [Y1] at h
 | succ N => exact Q12 (fun h => Q1z h) h
def Ye (rz1 : Q0 → Option (Q0)) (N : Nat) (v : Q0) (v1 : Q0) (c22 : Int) : Nat → Int → (List Q0) → Option (Q0)
 | 0, _, _ => none
 | n + 1, i45, l46 =>
  cond (Q9 .lss i45 ((Q0.rows v.Items).length : Int))
  ((idx v.Items i45).bind fun y48 =>
  (rz1 y48).bind fun v50 =>
  (idx (l46 : List Q0) i45).bind fun y52 =>
  Ye rz1 N v v1 c22 n (IntKind.wrap .i64 (i45 + 1)) ((l46 : List Q0).set (Int.toNat i45) v50))
  (some (⟨v1.Kind, c22, v1.Text, l46⟩ : Q0))
def Ze (rz1 : Q0 → Option (Q0)) (N : Nat) (v : Q0) (v1 : Q0) (c22 : Int) : Option (Q0) :=
 Ye rz1 N v v1 c22 N 0 v1.Items
def Yg (_N : Nat) (k2 : Int → Option (Q0)) (c9 : Int) (s25 : Bool) : Option (Q0) :=
 cond s25
 (k2 9221120237041090560)
 (k2 c9)
def Zq (rz1 : Q0 → Option (Q0)) (N : Nat) (v : Q0) (v1 : Q0) (c9 : Int) : Option (Q0) :=
 cond (Q9 .eql v.Kind 12)
 (cond (Q9 .eql (Q13 .u64 v.N' 9218868437227405312) 9218868437227405312)
 (Yg N (Ze rz1 N v v1) c9 (Q9 .neq (Q13 .u64 v.N' 4503599627370495) 0))
 (Yg N (Ze rz1 N v v1) c9 false))
 (Yg N (Ze rz1 N v v1) c9 false)
def Yf (_N : Nat) (k0 : Int → Option (Q0)) (v1 : Q0) (s12 : Bool) : Option (Q0) :=
 cond s12
 (k0 2143289344)
 (k0 v1.N')
def Wg (rz1 : Q0 → Option (Q0)) (N : Nat) (v : Q0) : Option (Q0) :=
 (Y1 N v).bind fun v1 =>
 cond (Q9 .eql v.Kind 11)
 (cond (Q9 .eql (Q13 .u64 v.N' 2139095040) 2139095040)
 (Yf N (Zq rz1 N v v1) v1 (Q9 .neq (Q13 .u64 v.N' 8388607) 0))
 (Yf N (Zq rz1 N v v1) v1 false))
 (Yf N (Zq rz1 N v v1) v1 false)
theorem Q1r {rz1 : Q0 → Option (Q0)} (hv1 : ∀ {v} {r}, rz1 v = some r → Zx Tryz.prog G1 34 [.agg (Q0.cells v)] (.agg (Q0.cells r))) {N} {v} {r} (h : Wg rz1 N v = some r) : Zx Tryz.prog G1 34 [.agg (Q0.cells v)] (.agg (Q0.cells r)) := by
 refine Q6 k34 ?_
 unfold Wg at h
 refine cG h Q1c fun v1 h => ?_
 refine ⟨fun i => i, (.cells (iI v.Kind :: iW v.N' :: iS v.Text :: .p (.slice 4 (Q0.rows v.Items)) :: []) :: .cells (iI 0 :: iW 0 :: iS [] :: .p .nilSlice :: []) :: .cells (Yk Q0.cells v1.Items) :: []), .agg [iI v1.Kind, iW v1.N', iS v1.Text, .slice 4 2 0 v1.Items.length], ⟨(rF q4 <| rN), hN, rfl, rfl, roN, rfl, (fK rfl rfl <| fK rfl rfl <| fO 0 rfl rfl rfl <| fN), rfl⟩, ?_⟩
 refine Gy (σ := Int) (fun _ => (.any :: .ptr 0 0 :: .ptr 1 0 :: .ptr 3 0 :: a16 (a16 (a16 (a4 (.any :: [])))) : List AV)) (fun c9 => (.cells (iI v.Kind :: iW v.N' :: iS v.Text :: .p (.slice 4 (Q0.rows v.Items)) :: []) :: .cells (iI 0 :: iW 0 :: iS [] :: .p .nilSlice :: []) :: .cells (Yk Q0.cells v1.Items) :: .cells (iI v1.Kind :: iW c9 :: iS v1.Text :: .slice 4 2 0 v1.Items.length :: []) :: [] : List AObj)) (fun c9 => Zq rz1 N v v1 c9 = some r) (fun _ _ => lb) ?_ ?_
 ·refine Gy (σ := Bool) (fun s12 => (.any :: .ptr 0 0 :: .ptr 1 0 :: .ptr 3 0 :: a16 (.any :: .p (.bool s12) :: a16 (a16 (a2 (.any :: [])))) : List AV)) (fun _ => (.cells (iI v.Kind :: iW v.N' :: iS v.Text :: .p (.slice 4 (Q0.rows v.Items)) :: []) :: .cells (iI 0 :: iW 0 :: iS [] :: .p .nilSlice :: []) :: .cells (Yk Q0.cells v1.Items) :: .cells (iI v1.Kind :: iW v1.N' :: iS v1.Text :: .slice 4 2 0 v1.Items.length :: []) :: [] : List AObj)) (fun s12 => Yf N (Zq rz1 N v v1) v1 s12 = some r) (fun _ _ => lb) ?_ ?_
  ·apply iU h <;> intro h
   ·apply iU h <;> intro h
    ·show Exists _
     exact ⟨((Q9 .neq (Q13 .u64 v.N' 8388607) 0)), h, (fun i => i), ⟨(rA <| rE rfl <| rE rfl <| rE rfl <| rX <| rX <| rA <| rE rfl <| rX <| rX <| rX <| rX <| rW <| rA <| rN), (hE rfl <| hE rfl <| hO rfl <| hE rfl <| hN), rfl, rfl, (roE rfl <| roE rfl <| roE (Q7 _ _ _) <| roE rfl <| roN)⟩⟩
    ·show Exists _
     exact ⟨(false), h, (fun i => i), ⟨(rA <| rE rfl <| rE rfl <| rE rfl <| rX <| rX <| rA <| rE rfl <| rX <| rX <| rX <| rX <| rW <| rA <| rN), (hE rfl <| hE rfl <| hO rfl <| hE rfl <| hN), rfl, rfl, (roE rfl <| roE rfl <| roE (Q7 _ _ _) <| roE rfl <| roN)⟩⟩
   ·show Exists _
    exact ⟨(false), h, (fun i => i), ⟨(rA <| rE rfl <| rE rfl <| rE rfl <| rX <| rX <| rA <| rE rfl <| rX <| rX <| rX <| rX <| rW <| rA <| rN), (hE rfl <| hE rfl <| hO rfl <| hE rfl <| hN), rfl, rfl, (roE rfl <| roE rfl <| roE (Q7 _ _ _) <| roE rfl <| roN)⟩⟩
  rintro s12 h
  dsimp only [Yf] at h
  apply iU h <;> intro h
  ·show Exists _
   exact ⟨(2143289344), h, (fun i => i), ⟨(rA <| rE rfl <| rE rfl <| rE rfl <| rX <| rX <| rX <| rX <| rX <| rX <| rV <| rA <| rN), (hE rfl <| hE rfl <| hO rfl <| hE rfl <| hN), rfl, rfl, (roE rfl <| roE rfl <| roE (Q7 _ _ _) <| roE rfl <| roN)⟩⟩
  ·show Exists _
   exact ⟨(v1.N'), h, (fun i => i), ⟨(rA <| rE rfl <| rE rfl <| rE rfl <| rX <| rX <| rX <| rX <| rX <| rX <| rV <| rA <| rN), (hE rfl <| hE rfl <| hO rfl <| hE rfl <| hN), rfl, rfl, (roE rfl <| roE rfl <| roE (Q7 _ _ _) <| roE rfl <| roN)⟩⟩
 rintro c9 h
 dsimp only [Zq] at h
 refine Gy (σ := Int) (fun _ => (.any :: .ptr 0 0 :: .ptr 1 0 :: .ptr 3 0 :: a16 (a16 (a16 (a4 (.any :: [])))) : List AV)) (fun c22 => (.cells (iI v.Kind :: iW v.N' :: iS v.Text :: .p (.slice 4 (Q0.rows v.Items)) :: []) :: .cells (iI 0 :: iW 0 :: iS [] :: .p .nilSlice :: []) :: .cells (Yk Q0.cells v1.Items) :: .cells (iI v1.Kind :: iW c22 :: iS v1.Text :: .slice 4 2 0 v1.Items.length :: []) :: [] : List AObj)) (fun c22 => Ze rz1 N v v1 c22 = some r) (fun _ _ => lb) ?_ ?_
 ·refine Gy (σ := Bool) (fun s25 => (.any :: .ptr 0 0 :: .ptr 1 0 :: .ptr 3 0 :: a16 (a16 (.any :: .p (.bool s25) :: a16 (a2 (.any :: [])))) : List AV)) (fun _ => (.cells (iI v.Kind :: iW v.N' :: iS v.Text :: .p (.slice 4 (Q0.rows v.Items)) :: []) :: .cells (iI 0 :: iW 0 :: iS [] :: .p .nilSlice :: []) :: .cells (Yk Q0.cells v1.Items) :: .cells (iI v1.Kind :: iW c9 :: iS v1.Text :: .slice 4 2 0 v1.Items.length :: []) :: [] : List AObj)) (fun s25 => Yg N (Ze rz1 N v v1) c9 s25 = some r) (fun _ _ => lb) ?_ ?_
  ·apply iU h <;> intro h
   ·apply iU h <;> intro h
    ·show Exists _
     exact ⟨((Q9 .neq (Q13 .u64 v.N' 4503599627370495) 0)), h, (fun i => i), ⟨(rA <| rE rfl <| rE rfl <| rE rfl <| rX <| rX <| rX <| rX <| rA <| rE rfl <| rX <| rX <| rW <| rA <| rN), (hE rfl <| hE rfl <| hO rfl <| hE rfl <| hN), rfl, rfl, (roE rfl <| roE rfl <| roE (Q7 _ _ _) <| roE rfl <| roN)⟩⟩
    ·show Exists _
     exact ⟨(false), h, (fun i => i), ⟨(rA <| rE rfl <| rE rfl <| rE rfl <| rX <| rX <| rX <| rX <| rA <| rE rfl <| rX <| rX <| rW <| rA <| rN), (hE rfl <| hE rfl <| hO rfl <| hE rfl <| hN), rfl, rfl, (roE rfl <| roE rfl <| roE (Q7 _ _ _) <| roE rfl <| roN)⟩⟩
   ·show Exists _
    exact ⟨(false), h, (fun i => i), ⟨(rA <| rE rfl <| rE rfl <| rE rfl <| rX <| rX <| rX <| rX <| rA <| rE rfl <| rX <| rX <| rW <| rA <| rN), (hE rfl <| hE rfl <| hO rfl <| hE rfl <| hN), rfl, rfl, (roE rfl <| roE rfl <| roE (Q7 _ _ _) <| roE rfl <| roN)⟩⟩
  rintro s25 h
  dsimp only [Yg] at h
  apply iU h <;> intro h
  ·show Exists _
   exact ⟨(9221120237041090560), h, (fun i => i), ⟨(rA <| rE rfl <| rE rfl <| rE rfl <| rX <| rX <| rX <| rX <| rX <| rX <| rV <| rA <| rN), (hE rfl <| hE rfl <| hO rfl <| hE rfl <| hN), rfl, rfl, (roE rfl <| roE rfl <| roE (Q7 _ _ _) <| roE rfl <| roN)⟩⟩
  ·show Exists _
   exact ⟨(c9), h, (fun i => i), ⟨(rA <| rE rfl <| rE rfl <| rE rfl <| rX <| rX <| rX <| rX <| rX <| rX <| rV <| rA <| rN), (hE rfl <| hE rfl <| hO rfl <| hE rfl <| hN), rfl, rfl, (roE rfl <| roE rfl <| roE (Q7 _ _ _) <| roE rfl <| roN)⟩⟩
 rintro c22 h
 dsimp only [Ze] at h
 refine lpC (τ := Int × (List Q0)) (fun ⟨i45, _⟩ => (.any :: .ptr 0 0 :: .ptr 1 0 :: .ptr 3 0 :: iI i45 :: a16 (a16 (a16 (a4 ([])))) : List AV)) (fun ⟨_, l46⟩ => (.cells (iI v.Kind :: iW v.N' :: iS v.Text :: .p (.slice 4 (Q0.rows v.Items)) :: []) :: .cells (iI 0 :: iW 0 :: iS [] :: .p .nilSlice :: []) :: .dead :: .cells (iI v1.Kind :: iW c22 :: iS v1.Text :: .slice 4 4 0 l46.length :: []) :: .cells (Yk Q0.cells l46) :: [] : List AObj)) (fun n4 ⟨i45, l46⟩ => Ye rz1 N v v1 c22 n4 i45 l46) (0, v1.Items) h (rho [0, 1, 2, 3, 2]) ⟨(rA <| rE rfl <| rE rfl <| rE rfl <| rE rfl <| rX <| rX <| rX <| rX <| rX <| rX <| rV <| rN), (hE rfl <| hE rfl <| hD <| hE rfl <| hO rfl <| hN), rfl, rfl, (roE rfl <| roE rfl <| roE rfl <| roE rfl <| roE (Q7 _ _ _) <| roN)⟩ fun n4 ⟨i45, l46⟩ h => ?_
 simp only [Ye] at h
 apply iU h <;> intro h
 ·refine Qh ?_
  refine Q0.xR h fun y48 h => ?_
  refine cD h hv1 (.cons q4 .nil) fun v50 h => ?_
  obtain ⟨y52, hy53, h⟩ := Gt h
  refine Q26 (Qce hy53 (by simp)) ?_
  refine Q26 (Qe7 (c := Q0.cells) (e := 4) (fun _ => rfl) hy53 (off := 0) (by omega) rfl (by decide)) ?_
  refine Qdn (c := Q0.cells) (e := 4) (fun _ => rfl) hy53 v50 (off := 0) (by first | omega | (simp only [Q13, orI, Qtd, Qbw, Q0d, Q1g]; omega)) rfl (by simp) ?_
  show Exists _
  exact ⟨(n4, (IntKind.wrap .i64 (i45 + 1)), ((l46 : List Q0).set (Int.toNat i45) v50)), h, Nat.lt_succ_self _, (fun i => i), ⟨(rA <| rE rfl <| rE rfl <| rE rfl <| rE rfl <| rX <| rX <| rX <| rX <| rX <| rX <| rV <| rN), (hE rfl <| hE rfl <| hD <| hC rfl (rE rfl <| rE rfl <| rE rfl <| rL (by simp) rfl <| rN) <| hO rfl <| hN), rfl, rfl, (roE rfl <| roE rfl <| roE rfl <| roE rfl <| roE (Q7 _ _ _) <| roN)⟩⟩
 ·obtain rfl := Qb h; exact (Frz.agg' (.cons (.p _) (.cons (.p _) (.cons (.p _) (.cons (Q0.frz_own (l := l46) rfl trivial (by simp)) .nil)))))
def Y2 : Nat → Q0 → Option (Q0)
 | 0 => fun _ => none
 | N + 1 => Wg (Y2 N) N
theorem Q28 {N} {v} {r} (h : Y2 N v = some r) : Zx Tryz.prog G1 34 [.agg (Q0.cells v)] (.agg (Q0.cells r)) := by
 induction N generalizing v r with
 | zero => simp [Y2] at h
 | succ N ih => exact Q1r (fun h => ih h) h
end
end
end Go.Av
