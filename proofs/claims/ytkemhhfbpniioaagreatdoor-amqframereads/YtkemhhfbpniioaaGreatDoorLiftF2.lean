/- The law. Part of a proof of a given statement: for every input the law returns true and the arguments read as before; no condition beyond the given row. -/
import Derived.Test.YtkemhhfbpniioaaGreatDoorLiftF1
namespace Go.Av
noncomputable section
open Go.Proofs
set_option maxRecDepth 100000
set_option maxHeartbeats 4000000
attribute [local irreducible] V9 X0 Q56 Q6j Q9 Q7t Q7s
section
def Zp (rv : Q0 → Q0 → Option (Bool)) (N : Nat) (a : Q0) (b : Q0) : Nat → Int → Option (Bool)
 | 0, _ => none
 | n + 1, i22 =>
  cond (Q9 .lss i22 ((Q0.rows a.Items).length : Int))
  ((idx a.Items i22).bind fun y24 =>
  (idx b.Items i22).bind fun y26 =>
  (rv y24 y26).bind fun v28 =>
  cond (!v28)
  (some false)
  (Zp rv N a b n (IntKind.wrap .i64 (i22 + 1))))
  (some true)
def Wk (rv : Q0 → Q0 → Option (Bool)) (N : Nat) (a : Q0) (b : Q0) : Option (Bool) :=
 cond (Q9 .neq a.Kind b.Kind)
 (some false)
 (cond (Q9 .neq a.N' b.N')
 (some false)
 (cond (Q7t .neq a.Text b.Text)
 (some false)
 (cond (Q9 .neq ((Q0.rows a.Items).length : Int) ((Q0.rows b.Items).length : Int))
 (some false)
 (Zp rv N a b N 0))))
theorem Q0h {rv : Q0 → Q0 → Option (Bool)} (hx1 : ∀ {a} {b} {r}, rv a b = some r → Zx Tryz.prog G1 19 [.agg (Q0.cells a), .agg (Q0.cells b)] (.bool r)) {N} {a} {b} {r} (h : Wk rv N a b = some r) : Zx Tryz.prog G1 19 [.agg (Q0.cells a), .agg (Q0.cells b)] (.bool r) := by
 refine Q6 k19 ?_
 unfold Wk at h
 apply iU h <;> intro h
 ·cases h; exact (.p _)
 ·apply iU h <;> intro h
  ·cases h; exact (.p _)
  ·apply iU h <;> intro h
   ·cases h; exact (.p _)
   ·apply iU h <;> intro h
    ·cases h; exact (.p _)
    ·refine lpC (τ := Int) (fun i22 => (.any :: .any :: .ptr 0 0 :: .ptr 1 0 :: .any :: iI i22 :: a16 (a16 (a8 (a4 (a2 (.any :: []))))) : List AV)) (fun _ => (.cells (iI a.Kind :: iW a.N' :: iS a.Text :: .p (.slice 4 (Q0.rows a.Items)) :: []) :: .cells (iI b.Kind :: iW b.N' :: iS b.Text :: .p (.slice 4 (Q0.rows b.Items)) :: []) :: [] : List AObj)) (fun n0 i22 => Zp rv N a b n0 i22) (0) h (fun i => i) ⟨(rW <| rE rfl <| rE rfl <| rA <| rE rfl <| rX <| rX <| rX <| rX <| rX <| rV <| rW <| rA <| rN), (hE rfl <| hE rfl <| hN), rfl, rfl, (roE rfl <| roE rfl <| roN)⟩ fun n0 i22 h => ?_
     simp only [Zp] at h
     apply iU h <;> intro h
     ·refine Qh ?_
      refine Q0.xR h fun y24 h => ?_
      refine Q0.xR h fun y26 h => ?_
      refine cD h hx1 (.cons q4 (.cons q4 .nil)) fun v28 h => ?_
      apply iU h <;> intro h
      ·cases h; exact (.p _)
      ·show Exists _
       exact ⟨(n0, (IntKind.wrap .i64 (i22 + 1))), h, Nat.lt_succ_self _, (fun i => i), ⟨(rW <| rE rfl <| rE rfl <| rA <| rE rfl <| rX <| rX <| rX <| rX <| rX <| rV <| rW <| rA <| rN), (hE rfl <| hE rfl <| hN), rfl, rfl, (roE rfl <| roE rfl <| roN)⟩⟩
     ·cases h; exact (.p _)
def Zs : Nat → Q0 → Q0 → Option (Bool)
 | 0 => fun _ _ => none
 | N + 1 => Wk (Zs N) N
theorem Q0f {N} {a} {b} {r} (h : Zs N a b = some r) : Zx Tryz.prog G1 19 [.agg (Q0.cells a), .agg (Q0.cells b)] (.bool r) := by
 induction N generalizing a b r with
 | zero => simp [Zs] at h
 | succ N ih => exact Q0h (fun h => ih h) h
def Yp (rz1 : Q0 → Int → Int → Option (Int)) (N : Nat) (v : Q0) (deep : Int) (most : Int) : Nat → Int → Int → Option (Int)
 | 0, _, _ => none
 | n + 1, n18, i19 =>
  cond (Q9 .lss i19 ((Q0.rows v.Items).length : Int))
  (cond (Q9 .leq n18 most)
  ((idx v.Items i19).bind fun y22 =>
  (rz1 y22 (IntKind.wrap .i64 (deep - 1)) (IntKind.wrap .i64 (most - n18))).bind fun v24 =>
  Yp rz1 N v deep most n (IntKind.wrap .i64 (n18 + v24)) (IntKind.wrap .i64 (i19 + 1)))
  (some n18))
  (some n18)
def Vt (rz1 : Q0 → Int → Int → Option (Int)) (N : Nat) (v : Q0) (deep : Int) (most : Int) : Option (Int) :=
 cond (Q9 .lss deep 0)
 (some (IntKind.wrap .i64 (most + 1)))
 (cond (Q9 .gtr ((Q0.rows v.Items).length : Int) most)
 (some (IntKind.wrap .i64 (most + 1)))
 (cond (Q9 .gtr (v.Text.length : Int) 400)
 (some (IntKind.wrap .i64 (most + 1)))
 (Yp rz1 N v deep most N 1 0)))
theorem Q2i {rz1 : Q0 → Int → Int → Option (Int)} (hv1 : ∀ {v} {deep} {most} {r}, rz1 v deep most = some r → Zx Tryz.prog G1 66 [.agg (Q0.cells v), .int .i64 deep, .int .i64 most] (.int .i64 r)) {N} {v} {deep} {most} {r} (h : Vt rz1 N v deep most = some r) : Zx Tryz.prog G1 66 [.agg (Q0.cells v), .int .i64 deep, .int .i64 most] (.int .i64 r) := by
 refine Q6 k66 ?_
 unfold Vt at h
 apply iU h <;> intro h
 ·cases h; exact (.p _)
 ·apply iU h <;> intro h
  ·cases h; exact (.p _)
  ·apply iU h <;> intro h
   ·cases h; exact (.p _)
   ·refine lpC (τ := Int × Int) (fun ⟨n18, i19⟩ => (.any :: iI deep :: iI most :: .ptr 0 0 :: a2 (.any :: iI n18 :: iI i19 :: a16 (a16 (a8 (a2 (.any :: []))))) : List AV)) (fun ⟨_, _⟩ => (.cells (iI v.Kind :: iW v.N' :: iS v.Text :: .p (.slice 4 (Q0.rows v.Items)) :: []) :: [] : List AObj)) (fun n0 ⟨n18, i19⟩ => Yp rz1 N v deep most n0 n18 i19) (1, 0) h (fun i => i) ⟨(rA <| rE rfl <| rE rfl <| rE rfl <| rW <| rA <| rE rfl <| rE rfl <| rX <| rX <| rX <| rX <| rX <| rW <| rA <| rN), (hE rfl <| hN), rfl, rfl, (roE rfl <| roN)⟩ fun n0 ⟨n18, i19⟩ h => ?_
    simp only [Yp] at h
    apply iU h <;> intro h
    ·apply iU h <;> intro h
     ·refine Q0.xR h fun y22 h => ?_
      refine cP h hv1 (.cons q4 p2) fun v24 h => ?_
      show Exists _
      exact ⟨(n0, (IntKind.wrap .i64 (n18 + v24)), (IntKind.wrap .i64 (i19 + 1))), h, Nat.lt_succ_self _, (fun i => i), ⟨(rA <| rE rfl <| rE rfl <| rE rfl <| rW <| rA <| rE rfl <| rE rfl <| rX <| rX <| rX <| rX <| rX <| rW <| rA <| rN), (hE rfl <| hN), rfl, rfl, (roE rfl <| roN)⟩⟩
     ·cases h; exact (.p _)
    ·cases h; exact (.p _)
def Yv : Nat → Q0 → Int → Int → Option (Int)
 | 0 => fun _ _ _ => none
 | N + 1 => Vt (Yv N) N
theorem Q2j {N} {v} {deep} {most} {r} (h : Yv N v deep most = some r) : Zx Tryz.prog G1 66 [.agg (Q0.cells v), .int .i64 deep, .int .i64 most] (.int .i64 r) := by
 induction N generalizing v deep most r with
 | zero => simp [Yv] at h
 | succ N ih => exact Q2i (fun h => ih h) h
def X1 (N : Nat) (v : Q0) : Option (Bool) :=
 (Yv N v 6 40).bind fun v1 =>
 some (Q9 .leq v1 40)
theorem Gu {N} {v} {r} (h : X1 N v = some r) : Zx Tryz.prog G1 20 [.agg (Q0.cells v)] (.bool r) := by
 refine Q6 k20 ?_
 unfold X1 at h
 refine cP h Q2j (.cons q4 p2) fun v1 h => ?_
 cases h; exact (.p _)
def W7 (rz : Q0 → Q0 → Option (Bool)) (N : Nat) (a : Q0) (b : Q0) : Nat → Int → Option (Bool)
 | 0, _ => none
 | n + 1, s22 =>
  cond (Q9 .lss s22 ((Q0.rows a.Items).length : Int))
  ((idx a.Items s22).bind fun y24 =>
  (idx b.Items s22).bind fun y26 =>
  (rz y24 y26).bind fun v28 =>
  cond (!v28)
  (some false)
  (W7 rz N a b n (IntKind.wrap .i64 (s22 + 1))))
  (some true)
def Jc (rz : Q0 → Q0 → Option (Bool)) (N : Nat) (a : Q0) (b : Q0) : Option (Bool) :=
 cond (Q9 .neq a.Kind b.Kind)
 (some false)
 (cond (Q9 .neq a.N' b.N')
 (some false)
 (cond (Q7t .neq a.Text b.Text)
 (some false)
 (cond (Q9 .neq ((Q0.rows a.Items).length : Int) ((Q0.rows b.Items).length : Int))
 (some false)
 (W7 rz N a b N 0))))
theorem Q65 {rz : Q0 → Q0 → Option (Bool)} (hy1 : ∀ {a} {b} {r}, rz a b = some r → Zx Tryz.prog G1 67 [.agg (Q0.cells a), .agg (Q0.cells b)] (.bool r)) {N} {a} {b} {r} (h : Jc rz N a b = some r) : Zx Tryz.prog G1 67 [.agg (Q0.cells a), .agg (Q0.cells b)] (.bool r) := by
 refine Q6 k67 ?_
 unfold Jc at h
 apply iU h <;> intro h
 ·cases h; exact (.p _)
 ·apply iU h <;> intro h
  ·cases h; exact (.p _)
  ·apply iU h <;> intro h
   ·cases h; exact (.p _)
   ·apply iU h <;> intro h
    ·cases h; exact (.p _)
    ·refine lpC (τ := Int) (fun s22 => (.any :: .any :: .ptr 0 0 :: .ptr 1 0 :: a16 (a16 (iI ((Q0.rows a.Items).length : Int) :: iI s22 :: a8 (a4 (a2 (.any :: []))))) : List AV)) (fun _ => (.cells (iI a.Kind :: iW a.N' :: iS a.Text :: .p (.slice 4 (Q0.rows a.Items)) :: []) :: .cells (iI b.Kind :: iW b.N' :: iS b.Text :: .p (.slice 4 (Q0.rows b.Items)) :: []) :: [] : List AObj)) (fun n0 s22 => W7 rz N a b n0 s22) (0) h (fun i => i) ⟨(rW <| rE rfl <| rE rfl <| rX <| rX <| rX <| rX <| rE rfl <| rE rfl <| rX <| rV <| rW <| rA <| rN), (hE rfl <| hE rfl <| hN), rfl, rfl, (roE rfl <| roE rfl <| roN)⟩ fun n0 s22 h => ?_
     simp only [W7] at h
     apply iU h <;> intro h
     ·refine Qh ?_
      refine Q0.xR h fun y24 h => ?_
      refine Q0.xR h fun y26 h => ?_
      refine cD h hy1 (.cons q4 (.cons q4 .nil)) fun v28 h => ?_
      apply iU h <;> intro h
      ·cases h; exact (.p _)
      ·show Exists _
       exact ⟨(n0, (IntKind.wrap .i64 (s22 + 1))), h, Nat.lt_succ_self _, (fun i => i), ⟨(rW <| rE rfl <| rE rfl <| rX <| rX <| rX <| rX <| rE rfl <| rE rfl <| rX <| rV <| rW <| rA <| rN), (hE rfl <| hE rfl <| hN), rfl, rfl, (roE rfl <| roE rfl <| roN)⟩⟩
     ·cases h; exact (.p _)
def Ws : Nat → Q0 → Q0 → Option (Bool)
 | 0 => fun _ _ => none
 | N + 1 => Jc (Ws N) N
theorem Q5u {N} {a} {b} {r} (h : Ws N a b = some r) : Zx Tryz.prog G1 67 [.agg (Q0.cells a), .agg (Q0.cells b)] (.bool r) := by
 induction N generalizing a b r with
 | zero => simp [Ws] at h
 | succ N ih => exact Q65 (fun h => ih h) h
def Xh (N : Nat) (w : Zu) : Option ((Unit) × Zu) :=
 (Wb N (IntKind.wrap .u64 0) 4).bind fun v1 =>
 cond (!(Nat.beq v1.length 0)) (cond (Nat.ble ((w.buffer.b.length + v1.length + 4096) * 1) 17592186044416) ((Wb N (IntKind.wrap .u64 (IntKind.wrap .i64 (2 + (IntKind.wrap .i64 (((w.f.Ext.length : Int) : Int).tdiv 4))))) 1).bind fun v5 =>
 cond (!(Nat.beq v5.length 0)) (cond (Nat.ble (((w.buffer.b.length + v1.length) + v5.length + 4096) * 1) 17592186044416) ((Wb N (IntKind.wrap .u64 w.f.Type') 1).bind fun v9 =>
 cond (!(Nat.beq v9.length 0)) (cond (Nat.ble ((((w.buffer.b.length + v1.length) + v5.length) + v9.length + 4096) * 1) 17592186044416) ((Wb N (IntKind.wrap .u64 w.f.Channel) 2).bind fun v13 =>
 cond (!(Nat.beq v13.length 0)) (cond (Nat.ble (((((w.buffer.b.length + v1.length) + v5.length) + v9.length) + v13.length + 4096) * 1) 17592186044416) (cond (Nat.beq w.f.Ext.length 0)
 (some ((), (⟨(⟨((((w.buffer.b ++ (v1.map fun b => (b.toNat : Int))) ++ (v5.map fun b => (b.toNat : Int))) ++ (v9.map fun b => (b.toNat : Int))) ++ (v13.map fun b => (b.toNat : Int)))⟩ : V1), w.f⟩ : Zu)))
 (cond (Nat.ble ((((((w.buffer.b.length + v1.length) + v5.length) + v9.length) + v13.length) + w.f.Ext.length + 4096) * 1) 17592186044416) (some ((), (⟨(⟨(((((w.buffer.b ++ (v1.map fun b => (b.toNat : Int))) ++ (v5.map fun b => (b.toNat : Int))) ++ (v9.map fun b => (b.toNat : Int))) ++ (v13.map fun b => (b.toNat : Int))) ++ (w.f.Ext.map fun b => (b.toNat : Int)))⟩ : V1), w.f⟩ : Zu))) none)) none) none) none) none) none) none) none) none
theorem Q10 {N} {w} {r} (h : Xh N w = some r) : GC Tryz.prog G1 69 (.ptr 0 0 :: []) (.cells (.slice 1 1 0 w.buffer.b.length :: .p (.int .i64 w.f.Type') :: .p (.int .i64 w.f.Channel) :: .p (.str w.f.Ext) :: .p (.slice 4 (Q0.rows w.f.Values)) :: []) :: .cells (Yk (cI .u8) w.buffer.b) :: []) (.tuple []) (.cells (.slice 1 2 0 r.2.buffer.b.length :: .p (.int .i64 r.2.f.Type') :: .p (.int .i64 r.2.f.Channel) :: .p (.str r.2.f.Ext) :: .p (.slice 4 (Q0.rows r.2.f.Values)) :: []) :: .dead :: .cells (Yk (cI .u8) r.2.buffer.b) :: []) := by
 refine Q0p k69 (Nat.le_of_ble_eq_true rfl) ?_
 unfold Xh at h
 refine Vo Qte ?_
 refine cP h Wm p2 fun v1 h => ?_
 refine Vo k70 ?_
 refine Q7c (b := v1) ?_
 obtain ⟨hk3, h⟩ := Q31 h
 refine ifF (Qnx hk3) ?_
 obtain ⟨hk4, h⟩ := Q31 h
 refine Q26 (Xo (c := (cI .u8)) (e := 1) (l := w.buffer.b) (fun _ => rfl) (by simp) hk4) ?_
 refine Vh (c := (cI .u8)) (l := w.buffer.b) (v1.map fun b => (b.toNat : Int)) rfl ?_
 refine J5 11 rfl rfl ?_
 refine Vo Qte ?_
 refine cP h Wm p2 fun v5 h => ?_
 refine Vo k70 ?_
 refine Q7c (b := v5) ?_
 obtain ⟨hk7, h⟩ := Q31 h
 refine ifF (Qnx hk7) ?_
 obtain ⟨hk8, h⟩ := Q31 h
 refine Q26 (Xo (c := (cI .u8)) (e := 1) (l := (w.buffer.b ++ (v1.map fun b => (b.toNat : Int)))) (fun _ => rfl) (by simp) hk8) ?_
 refine Vh (c := (cI .u8)) (l := (w.buffer.b ++ (v1.map fun b => (b.toNat : Int)))) (v5.map fun b => (b.toNat : Int)) rfl ?_
 refine J5 8 rfl rfl ?_
 refine Vo Qte ?_
 refine cP h Wm p2 fun v9 h => ?_
 refine Vo k70 ?_
 refine Q7c (b := v9) ?_
 obtain ⟨hk11, h⟩ := Q31 h
 refine ifF (Qnx hk11) ?_
 obtain ⟨hk12, h⟩ := Q31 h
 refine Q26 (Xo (c := (cI .u8)) (e := 1) (l := ((w.buffer.b ++ (v1.map fun b => (b.toNat : Int))) ++ (v5.map fun b => (b.toNat : Int)))) (fun _ => rfl) (by simp <;> omega) hk12) ?_
 refine Vh (c := (cI .u8)) (l := ((w.buffer.b ++ (v1.map fun b => (b.toNat : Int))) ++ (v5.map fun b => (b.toNat : Int)))) (v9.map fun b => (b.toNat : Int)) rfl ?_
 refine J5 8 rfl rfl ?_
 refine Vo Qte ?_
 refine cP h Wm p2 fun v13 h => ?_
 refine Vo k70 ?_
 refine Q7c (b := v13) ?_
 obtain ⟨hk15, h⟩ := Q31 h
 refine ifF (Qnx hk15) ?_
 obtain ⟨hk16, h⟩ := Q31 h
 refine Q26 (Xo (c := (cI .u8)) (e := 1) (l := (((w.buffer.b ++ (v1.map fun b => (b.toNat : Int))) ++ (v5.map fun b => (b.toNat : Int))) ++ (v9.map fun b => (b.toNat : Int)))) (fun _ => rfl) (by simp <;> omega) hk16) ?_
 refine Vh (c := (cI .u8)) (l := (((w.buffer.b ++ (v1.map fun b => (b.toNat : Int))) ++ (v5.map fun b => (b.toNat : Int))) ++ (v9.map fun b => (b.toNat : Int)))) (v13.map fun b => (b.toNat : Int)) rfl ?_
 refine J5 8 rfl rfl ?_
 refine Vo k70 ?_
 refine Q7c (b := w.f.Ext) ?_
 apply iU h <;> intro h
 ·obtain rfl := Qb h
  show Exists _
  exact ⟨(rho [0, 1, 5]), ⟨(rE rfl <| rN), (hC rfl (rL (by simp <;> omega) rfl <| rE rfl <| rE rfl <| rE rfl <| rE rfl <| rN) <| hD <| hO rfl <| hN), rfl, rfl, (roE rfl <| roE rfl <| roE (Q7 _ _ _) <| roN)⟩⟩
 ·obtain ⟨hk18, h⟩ := Q31 h
  refine Q26 (Xo (c := (cI .u8)) (e := 1) (l := ((((w.buffer.b ++ (v1.map fun b => (b.toNat : Int))) ++ (v5.map fun b => (b.toNat : Int))) ++ (v9.map fun b => (b.toNat : Int))) ++ (v13.map fun b => (b.toNat : Int)))) (fun _ => rfl) (by simp <;> omega) hk18) ?_
  refine Vh (c := (cI .u8)) (l := ((((w.buffer.b ++ (v1.map fun b => (b.toNat : Int))) ++ (v5.map fun b => (b.toNat : Int))) ++ (v9.map fun b => (b.toNat : Int))) ++ (v13.map fun b => (b.toNat : Int)))) (w.f.Ext.map fun b => (b.toNat : Int)) rfl ?_
  obtain rfl := Qb h
  show Exists _
  exact ⟨(rho [0, 1, 6]), ⟨(rE rfl <| rN), (hC rfl (rL (by simp <;> omega) rfl <| rE rfl <| rE rfl <| rE rfl <| rE rfl <| rN) <| hD <| hO rfl <| hN), rfl, rfl, (roE rfl <| roE rfl <| roE (Q7 _ _ _) <| roN)⟩⟩
def Xg (N : Nat) (w : Zu) : Option ((Unit) × Zu) :=
 (Wb N (IntKind.wrap .u64 (w.buffer.b.length : Int)) 4).bind fun v1 =>
 cond (Nat.ble 1 w.buffer.b.length) (some ((), (⟨(⟨(((v1.map fun b => (b.toNat : Int)).take w.buffer.b.length) ++ (w.buffer.b : List Int).drop ((v1.map fun b => (b.toNat : Int)).take w.buffer.b.length).length)⟩ : V1), w.f⟩ : Zu))) none
theorem Q0y {N} {w} {r} (h : Xg N w = some r) : GC Tryz.prog G1 71 (.ptr 0 0 :: []) (.cells (.slice 1 1 0 w.buffer.b.length :: .p (.int .i64 w.f.Type') :: .p (.int .i64 w.f.Channel) :: .p (.str w.f.Ext) :: .p (.slice 4 (Q0.rows w.f.Values)) :: []) :: .cells (Yk (cI .u8) w.buffer.b) :: []) (.tuple []) (.cells (.slice 1 2 0 r.2.buffer.b.length :: .p (.int .i64 r.2.f.Type') :: .p (.int .i64 r.2.f.Channel) :: .p (.str r.2.f.Ext) :: .p (.slice 4 (Q0.rows r.2.f.Values)) :: []) :: .dead :: .cells (Yk (cI .u8) r.2.buffer.b) :: []) := by
 refine Q0p k71 (Nat.le_of_ble_eq_true rfl) ?_
 unfold Xg at h
 refine Qh ?_
 refine cD h Wm p2 fun v1 h => ?_
 refine Q7c (b := v1) ?_
 obtain ⟨hk3, h⟩ := Q31 h
 refine Q26 (Qoi (c := (cI .u8)) (l := (w.buffer.b : List Int)) (fun _ => rfl) (by simp) hk3) ?_
 refine Qqu (c := (cI .u8)) (l := (w.buffer.b : List Int)) (new := (v1.map fun b => (b.toNat : Int))) (fun _ => rfl) ?_
 obtain rfl := Qb h
 show Exists _
 exact ⟨(rho [0, 1, 1]), ⟨(rE rfl <| rN), (hC rfl (rL (by simp <;> omega) rfl <| rE rfl <| rE rfl <| rE rfl <| rE rfl <| rN) <| hD <| hO rfl <| hN), rfl, rfl, (roE rfl <| roE rfl <| roE (Q7 _ _ _) <| roN)⟩⟩
def U7 (N : Nat) (v : Q0) (most : Int) : Option (Int × Int) :=
 (We N v most).bind fun v1 =>
 cond (Q9 .neq v1 0)
 (some (0, v1))
 ((Yr N v).bind fun v4 =>
 (Xk N v4).bind fun v6 =>
 (Yj N v6).bind fun v8 =>
 (Zn N v6 v8).bind fun v10 =>
 some ((IntKind.wrap .i64 (1 + v10)), 0))
theorem Q51 {N} {v} {most} {r} (h : U7 N v most = some r) : Zx Tryz.prog G1 33 [.agg (Q0.cells v), .int .i64 most] (.tuple [.int .i64 r.1, .int .i64 r.2]) := by
 refine Q6 k33 ?_
 unfold U7 at h
 refine cP h J0 (.cons q4 p1) fun v1 h => ?_
 apply iU h <;> intro h
 ·obtain rfl := Qb h; exact u2
 ·refine cP h J9 (.cons q4 .nil) fun v4 h => ?_
  refine cP h Ga p1 fun v6 h => ?_
  refine Qh ?_
  refine cD h Vs (.cons (Frz.agg' (.cons (.p _) (.cons (.p _) p5))) .nil) fun v8 h => ?_
  refine cD h Jj (.cons (Frz.agg' (.cons (.p _) (.cons (.p _) p5))) p1) fun v10 h => ?_
  obtain rfl := Qb h; exact u2
def Wz (_N : Nat) (l : Z8) : Option (Bool) :=
 cond (Q9 .geq l.MaxPacket 16)
 (cond (Q9 .leq l.MaxPacket 1048576)
 (cond (Q9 .geq l.MaxDepth 0)
 (some (Q9 .leq l.MaxDepth 32))
 (some false))
 (some false))
 (some false)
theorem Gw {N} {l} {r} (h : Wz N l = some r) : Zx Tryz.prog G1 77 [.agg (Z8.cells l)] (.bool r) := by
 refine Q6 k77 ?_
 unfold Wz at h
 apply iU h <;> intro h
 ·apply iU h <;> intro h
  ·apply iU h <;> intro h
   ·cases h; exact (.p _)
   ·cases h; exact (.p _)
  ·cases h; exact (.p _)
 ·cases h; exact (.p _)
def V3 (_N : Nat) (n_0 : Int) : Option (Bool) :=
 cond (Q9 .eql n_0 0)
 (some true)
 (some (Q9 .eql n_0 1))
theorem Q02 {N} {n_0} {r} (h : V3 N n_0 = some r) : Zx Tryz.prog G1 79 [.int .i64 n_0] (.bool r) := by
 refine Q6 k79 ?_
 unfold V3 at h
 apply iU h <;> intro h
 ·cases h; exact (.p _)
 ·cases h; exact (.p _)
def Xn (N : Nat) (f : Qk) (l : Z8) : Nat → Int → Int → Option (Int)
 | 0, _, _ => none
 | n + 1, all44, s45 =>
  cond (Q9 .lss s45 ((Q0.rows f.Values).length : Int))
  ((idx f.Values s45).bind fun y47 =>
  (U7 N y47 l.MaxDepth).bind fun v49 =>
  Xn N f l n (IntKind.wrap .i64 (all44 + v49.1)) (IntKind.wrap .i64 (s45 + 1)))
  (cond (Q9 .gtr all44 l.MaxPacket)
  (some 4)
  (some 0))
def Xj (N : Nat) (f : Qk) (l : Z8) : Nat → Int → Option (Int)
 | 0, _ => none
 | n + 1, s25 =>
  cond (Q9 .lss s25 ((Q0.rows f.Values).length : Int))
  ((idx f.Values s25).bind fun y27 =>
  (We N y27 l.MaxDepth).bind fun v29 =>
  cond (Q9 .neq v29 0)
  (some v29)
  (Xj N f l n (IntKind.wrap .i64 (s25 + 1))))
  (Xn N f l N (IntKind.wrap .i64 (8 + (f.Ext.length : Int))) 0)
def Vw (N : Nat) (f : Qk) (l : Z8) : Option (Int) :=
 (Wz N l).bind fun v1 =>
 cond (!v1)
 (some 2)
 ((V3 N f.Type').bind fun v4 =>
 cond (!v4)
 (some 8)
 (cond (Q9 .lss f.Channel 0)
 (some 2)
 (cond (Q9 .gtr f.Channel 65535)
 (some 2)
 (cond (Q9 .gtr (f.Ext.length : Int) 1012)
 (some 2)
 (cond (Q9 .neq (((f.Ext.length : Int) : Int).tmod 4) 0)
 (some 2)
 (cond (Q9 .gtr ((Q0.rows f.Values).length : Int) 1000)
 (some 4)
 (Xj N f l N 0)))))))
theorem Q4a {N} {f} {l} {r} (h : Vw N f l = some r) : Zx Tryz.prog G1 42 [.agg (Qk.cells f), .agg (Z8.cells l)] (.int .i64 r) := by
 refine Q6 k42 ?_
 unfold Vw at h
 refine cP h Gw (.cons q2 .nil) fun v1 h => ?_
 apply iU h <;> intro h
 ·cases h; exact (.p _)
 ·refine cP h Q02 p1 fun v4 h => ?_
  apply iU h <;> intro h
  ·cases h; exact (.p _)
  ·apply iU h <;> intro h
   ·cases h; exact (.p _)
   ·apply iU h <;> intro h
    ·cases h; exact (.p _)
    ·apply iU h <;> intro h
     ·cases h; exact (.p _)
     ·apply iU h <;> intro h
      ·cases h; exact (.p _)
      ·apply iU h <;> intro h
       ·cases h; exact (.p _)
       ·refine lpC (τ := Int) (fun s25 => (.any :: .any :: .ptr 0 0 :: .ptr 1 0 :: a16 (a16 (a8 (a2 (.p (.slice 4 (Q0.rows f.Values)) :: iI ((Q0.rows f.Values).length : Int) :: iI s25 :: a16 (a16 (a4 (.any :: []))))))) : List AV)) (fun _ => (.cells (iI f.Type' :: iI f.Channel :: iS f.Ext :: .p (.slice 4 (Q0.rows f.Values)) :: []) :: .cells (iI l.MaxPacket :: iI l.MaxDepth :: []) :: [] : List AObj)) (fun n0 s25 => Xj N f l n0 s25) (0) h (fun i => i) ⟨(rW <| rE rfl <| rE rfl <| rX <| rX <| rX <| rX <| rX <| rW <| rE rfl <| rE rfl <| rE rfl <| rX <| rX <| rX <| rX <| rV <| rA <| rN), (hE rfl <| hE rfl <| hN), rfl, rfl, (roE rfl <| roE rfl <| roN)⟩ fun n0 s25 h => ?_
        simp only [Xj] at h
        apply iU h <;> intro h
        ·refine Q0.xR h fun y27 h => ?_
         refine cP h J0 (.cons q4 p1) fun v29 h => ?_
         apply iU h <;> intro h
         ·cases h; exact (.p _)
         ·show Exists _
          exact ⟨(n0, (IntKind.wrap .i64 (s25 + 1))), h, Nat.lt_succ_self _, (fun i => i), ⟨(rW <| rE rfl <| rE rfl <| rX <| rX <| rX <| rX <| rX <| rW <| rE rfl <| rE rfl <| rE rfl <| rX <| rX <| rX <| rX <| rV <| rA <| rN), (hE rfl <| hE rfl <| hN), rfl, rfl, (roE rfl <| roE rfl <| roN)⟩⟩
        ·refine lpC (τ := Int × Int) (fun ⟨all44, s45⟩ => (a2 (.any :: .ptr 1 0 :: a4 (iI all44 :: a16 (a16 (a16 (a8 (.p (.slice 4 (Q0.rows f.Values)) :: iI ((Q0.rows f.Values).length : Int) :: iI s45 :: a16 (a2 ([])))))))) : List AV)) (fun ⟨_, _⟩ => (.cells (iI f.Type' :: iI f.Channel :: iS f.Ext :: .p (.slice 4 (Q0.rows f.Values)) :: []) :: .cells (iI l.MaxPacket :: iI l.MaxDepth :: []) :: [] : List AObj)) (fun n1 ⟨all44, s45⟩ => Xn N f l n1 all44 s45) ((IntKind.wrap .i64 (8 + (f.Ext.length : Int))), 0) h (fun i => i) ⟨(rW <| rA <| rE rfl <| rV <| rE rfl <| rX <| rX <| rX <| rX <| rX <| rX <| rX <| rE rfl <| rE rfl <| rE rfl <| rX <| rX <| rW <| rN), (hE rfl <| hE rfl <| hN), rfl, rfl, (roE rfl <| roE rfl <| roN)⟩ fun n1 ⟨all44, s45⟩ h => ?_
         simp only [Xn] at h
         apply iU h <;> intro h
         ·refine Q0.xR h fun y47 h => ?_
          refine cP h Q51 (.cons q4 p1) fun v49 h => ?_
          show Exists _
          exact ⟨(n1, (IntKind.wrap .i64 (all44 + v49.1)), (IntKind.wrap .i64 (s45 + 1))), h, Nat.lt_succ_self _, (fun i => i), ⟨(rW <| rA <| rE rfl <| rV <| rE rfl <| rX <| rX <| rX <| rX <| rX <| rX <| rX <| rE rfl <| rE rfl <| rE rfl <| rX <| rX <| rW <| rN), (hE rfl <| hE rfl <| hN), rfl, rfl, (roE rfl <| roE rfl <| roN)⟩⟩
         ·apply iU h <;> intro h
          ·cases h; exact (.p _)
          ·cases h; exact (.p _)
def Ys (N : Nat) (f : Qk) (l : Z8) (v4 : (Unit) × Zu) : Nat → Int → (List Int) → Option ((List UInt8) × Int)
 | 0, _, _ => none
 | n + 1, s22, l23 =>
  cond (Q9 .lss s22 ((Q0.rows f.Values).length : Int))
  ((idx f.Values s22).bind fun y25 =>
  (Vy N y25 l.MaxDepth).bind fun v27 =>
  cond (Nat.beq v27.1.length 0)
  (Ys N f l v4 n (IntKind.wrap .i64 (s22 + 1)) l23)
  (cond (Nat.ble ((l23.length + v27.1.length + 4096) * 1) 17592186044416) (Ys N f l v4 n (IntKind.wrap .i64 (s22 + 1)) (l23 ++ (v27.1.map fun b => (b.toNat : Int)))) none))
  ((Xg N (⟨(⟨l23⟩ : V1), v4.2.f⟩ : Zu)).bind fun v31 =>
  some ((v31.2.buffer.b.map fun n => UInt8.ofNat n.toNat), 0))
def V2 (N : Nat) (f : Qk) (l : Z8) : Option ((List UInt8) × Int) :=
 (Vw N f l).bind fun v1 =>
 cond (Q9 .neq v1 0)
 (some ([], v1))
 ((Xh N (⟨(⟨[]⟩ : V1), f⟩ : Zu)).bind fun v4 =>
 Ys N f l v4 N 0 v4.2.buffer.b)
theorem Q04 {N} {f} {l} {r} (h : V2 N f l = some r) : Zx Tryz.prog G1 26 [.agg (Qk.cells f), .agg (Z8.cells l)] (.tuple [.str r.1, .int .i64 r.2]) := by
 refine Q6 k26 ?_
 unfold V2 at h
 refine cP h Q4a (.cons q4 (.cons q2 .nil)) fun v1 h => ?_
 apply iU h <;> intro h
 ·obtain rfl := Qb h; exact u2
 ·refine cG h Q10 fun v4 h => ?_
  refine ⟨rho [2, 4], (.cells (iI f.Type' :: iI f.Channel :: iS f.Ext :: .p (.slice 4 (Q0.rows f.Values)) :: []) :: .cells (iI l.MaxPacket :: iI l.MaxDepth :: []) :: .cells (.slice 1 3 0 v4.2.buffer.b.length :: iI v4.2.f.Type' :: iI v4.2.f.Channel :: iS v4.2.f.Ext :: .p (.slice 4 (Q0.rows v4.2.f.Values)) :: []) :: .cells (Yk (cI .u8) v4.2.buffer.b) :: []), .tuple [], ⟨(rE rfl <| rN), (hC rfl (rS <| rE rfl <| rE rfl <| rE rfl <| rE rfl <| rN) <| hV lb <| hN), rfl, rfl, (roE rfl <| roE (Q7 _ _ _) <| roN), rfl, (fK rfl rfl <| fK rfl rfl <| fR 0 rfl rfl rfl rfl <| fO 2 rfl rfl rfl <| fN), rfl⟩, ?_⟩
  refine lpC (τ := Int × (List Int)) (fun ⟨s22, _⟩ => (a2 (.any :: .ptr 1 0 :: a2 (.any :: .ptr 2 0 :: a8 (a4 (a2 (.p (.slice 4 (Q0.rows f.Values)) :: iI ((Q0.rows f.Values).length : Int) :: iI s22 :: a16 (a2 (.any :: []))))))) : List AV)) (fun ⟨_, l23⟩ => (.cells (iI f.Type' :: iI f.Channel :: iS f.Ext :: .p (.slice 4 (Q0.rows f.Values)) :: []) :: .cells (iI l.MaxPacket :: iI l.MaxDepth :: []) :: .cells (.slice 1 4 0 l23.length :: iI v4.2.f.Type' :: iI v4.2.f.Channel :: iS v4.2.f.Ext :: .p (.slice 4 (Q0.rows v4.2.f.Values)) :: []) :: .dead :: .cells (Yk (cI .u8) l23) :: [] : List AObj)) (fun n0 ⟨s22, l23⟩ => Ys N f l v4 n0 s22 l23) (0, v4.2.buffer.b) h (rho [0, 1, 2, 3, 3]) ⟨(rW <| rA <| rE rfl <| rW <| rA <| rE rfl <| rX <| rV <| rW <| rE rfl <| rE rfl <| rE rfl <| rX <| rX <| rW <| rA <| rN), (hE rfl <| hE rfl <| hE rfl <| hD <| hO rfl <| hN), rfl, rfl, (roE rfl <| roE rfl <| roE rfl <| roE rfl <| roE (Q7 _ _ _) <| roN)⟩ fun n0 ⟨s22, l23⟩ h => ?_
  simp only [Ys] at h
  apply iU h <;> intro h
  ·refine Q0.xR h fun y25 h => ?_
   refine cP h Q4j (.cons q4 p1) fun v27 h => ?_
   refine Vo k70 ?_
   refine Q7c (b := v27.1) ?_
   apply iU h <;> intro h
   ·show Exists _
    exact ⟨(n0, (IntKind.wrap .i64 (s22 + 1)), l23), h, Nat.lt_succ_self _, (fun i => i), ⟨(rW <| rA <| rE rfl <| rW <| rA <| rE rfl <| rX <| rV <| rW <| rE rfl <| rE rfl <| rE rfl <| rX <| rX <| rW <| rA <| rN), (hE rfl <| hE rfl <| hE rfl <| hD <| hO rfl <| hN), rfl, rfl, (roE rfl <| roE rfl <| roE rfl <| roE rfl <| roE (Q7 _ _ _) <| roN)⟩⟩
   ·obtain ⟨hk30, h⟩ := Q31 h
    refine Q26 (Xo (c := (cI .u8)) (e := 1) (l := l23) (fun _ => rfl) (by simp) hk30) ?_
    refine Vh (c := (cI .u8)) (l := l23) (v27.1.map fun b => (b.toNat : Int)) rfl ?_
    show Exists _
    exact ⟨(n0, (IntKind.wrap .i64 (s22 + 1)), (l23 ++ (v27.1.map fun b => (b.toNat : Int)))), h, Nat.lt_succ_self _, (rho [0, 1, 2, 3, 6]), ⟨(rW <| rA <| rE rfl <| rW <| rA <| rE rfl <| rX <| rV <| rW <| rE rfl <| rE rfl <| rE rfl <| rX <| rX <| rW <| rA <| rN), (hE rfl <| hE rfl <| hC rfl (rL (by simp) rfl <| rE rfl <| rE rfl <| rE rfl <| rE rfl <| rN) <| hD <| hO rfl <| hN), rfl, rfl, (roE rfl <| roE rfl <| roE rfl <| roE rfl <| roE (Q7 _ _ _) <| roN)⟩⟩
  ·refine cG h Q0y fun v31 h => ?_
   refine ⟨rho [2, 4], (.cells (iI f.Type' :: iI f.Channel :: iS f.Ext :: .p (.slice 4 (Q0.rows f.Values)) :: []) :: .cells (iI l.MaxPacket :: iI l.MaxDepth :: []) :: .cells (.slice 1 5 0 v31.2.buffer.b.length :: iI v31.2.f.Type' :: iI v31.2.f.Channel :: iS v31.2.f.Ext :: .p (.slice 4 (Q0.rows v31.2.f.Values)) :: []) :: .dead :: .dead :: .cells (Yk (cI .u8) v31.2.buffer.b) :: []), .tuple [], ⟨(rE rfl <| rN), (hE rfl <| hO rfl <| hN), rfl, rfl, (roE rfl <| roE (Q7 _ _ _) <| roN), rfl, (fK rfl rfl <| fK rfl rfl <| fR 0 rfl rfl rfl rfl <| fD <| fD <| fO 2 rfl rfl rfl <| fN), rfl⟩, ?_⟩
   refine Qlx (l := v31.2.buffer.b) (by simp) ?_
   obtain rfl := Qb h; exact u2
def Un (_N : Nat) : Option (Z8) :=
 some (⟨4096, 6⟩ : Z8)
theorem Q23 {N} {r} (h : Un N = some r) : Zx Tryz.prog G1 36 [] (.agg (Z8.cells r)) := by
 refine Q6 k36 ?_
 unfold Un at h
 obtain rfl := Qb h; exact q2
def Xu (N : Nat) : Option (Bool) :=
 (Un N).bind fun v1 =>
 (V2 N (⟨0, 1, [], []⟩ : Qk) v1).bind fun v3 =>
 cond (Q9 .eql v3.2 0)
 (some (Q7t .eql v3.1 [0, 0, 0, 8, 2, 0, 0, 1]))
 (some false)
theorem Q11 {N} {r} (h : Xu N = some r) : Zx Tryz.prog G1 24 [] (.bool r) := by
 refine Q6 k24 ?_
 unfold Xu at h
 refine cP h Q23 p0 fun v1 h => ?_
 refine cP h Q04 (.cons q4n p1) fun v3 h => ?_
 apply iU h <;> intro h
 ·cases h; exact (.p _)
 ·cases h; exact (.p _)
def Zo (N : Nat) (f : Qk) : Nat → Int → Option (Bool)
 | 0, _ => none
 | n + 1, i16 =>
  cond (Q9 .lss i16 ((Q0.rows f.Values).length : Int))
  ((idx f.Values i16).bind fun y18 =>
  (X1 N y18).bind fun v20 =>
  cond (!v20)
  (some false)
  (Zo N f n (IntKind.wrap .i64 (i16 + 1))))
  (some true)
def Yy (N : Nat) (f : Qk) : Option (Bool) :=
 cond (Q9 .gtr ((Q0.rows f.Values).length : Int) 6)
 (some false)
 (cond (Q9 .gtr (f.Ext.length : Int) 1100)
 (some false)
 (Zo N f N 0))
theorem Gs {N} {f} {r} (h : Yy N f = some r) : Zx Tryz.prog G1 25 [.agg (Qk.cells f)] (.bool r) := by
 refine Q6 k25 ?_
 unfold Yy at h
 apply iU h <;> intro h
 ·cases h; exact (.p _)
 ·apply iU h <;> intro h
  ·cases h; exact (.p _)
  ·refine lpC (τ := Int) (fun i16 => (.any :: .ptr 0 0 :: .any :: iI i16 :: a16 (a8 ([])) : List AV)) (fun _ => (.cells (iI f.Type' :: iI f.Channel :: iS f.Ext :: .p (.slice 4 (Q0.rows f.Values)) :: []) :: [] : List AObj)) (fun n0 i16 => Zo N f n0 i16) (0) h (fun i => i) ⟨(rA <| rE rfl <| rA <| rE rfl <| rX <| rX <| rX <| rN), (hE rfl <| hN), rfl, rfl, (roE rfl <| roN)⟩ fun n0 i16 h => ?_
   simp only [Zo] at h
   apply iU h <;> intro h
   ·refine Q0.xR h fun y18 h => ?_
    refine cP h Gu (.cons q4 .nil) fun v20 h => ?_
    apply iU h <;> intro h
    ·cases h; exact (.p _)
    ·show Exists _
     exact ⟨(n0, (IntKind.wrap .i64 (i16 + 1))), h, Nat.lt_succ_self _, (fun i => i), ⟨(rA <| rE rfl <| rA <| rE rfl <| rX <| rX <| rX <| rN), (hE rfl <| hN), rfl, rfl, (roE rfl <| roN)⟩⟩
   ·cases h; exact (.p _)
end
end
end Go.Av
