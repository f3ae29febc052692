/- The law. Part of a proof of a given statement: for every input the law returns true and the arguments read as before; no condition beyond the given row. -/
import Derived.Test.YtkemhhfbpniioaaGreatDoorLiftF1
namespace Go.Av
noncomputable section
open Go.Proofs
set_option maxRecDepth 100000
set_option maxHeartbeats 4000000
attribute [local irreducible] Ug Xt Q7v Q9n Q8 Q6m Qcf
section
def X5 (rz : Q0 → Int → Int → Option (Int)) (N : Nat) (v : Q0) (deep : Int) (most : Int) : Nat → Int → Int → Option (Int)
 | 0, _, _ => none
 | n + 1, n18, i19 =>
  cond (Q8 .lss i19 ((Q0.rows v.Items).length : Int))
  (cond (Q8 .leq n18 most)
  ((idx v.Items i19).bind fun y22 =>
  (rz y22 (IntKind.wrap .i64 (deep - 1)) (IntKind.wrap .i64 (most - n18))).bind fun v24 =>
  X5 rz N v deep most n (IntKind.wrap .i64 (n18 + v24)) (IntKind.wrap .i64 (i19 + 1)))
  (some n18))
  (some n18)
def U2 (rz : Q0 → Int → Int → Option (Int)) (N : Nat) (v : Q0) (deep : Int) (most : Int) : Option (Int) :=
 cond (Q8 .lss deep 0)
 (some (IntKind.wrap .i64 (most + 1)))
 (cond (Q8 .gtr ((Q0.rows v.Items).length : Int) most)
 (some (IntKind.wrap .i64 (most + 1)))
 (cond (Q8 .gtr (v.Text.length : Int) 400)
 (some (IntKind.wrap .i64 (most + 1)))
 (X5 rz N v deep most N 1 0)))
theorem Q38 {rz : Q0 → Int → Int → Option (Int)} (hy1 : ∀ {v} {deep} {most} {r}, rz v deep most = some r → Zo Tryz.prog G1 66 [.agg (Q0.cells v), .int .i64 deep, .int .i64 most] (.int .i64 r)) {N} {v} {deep} {most} {r} (h : U2 rz N v deep most = some r) : Zo Tryz.prog G1 66 [.agg (Q0.cells v), .int .i64 deep, .int .i64 most] (.int .i64 r) := by
 refine Q3 k66 ?_
 unfold U2 at h
 apply iU h <;> intro h
 ·cases h; exact (.p _)
 ·apply iU h <;> intro h
  ·cases h; exact (.p _)
  ·apply iU h <;> intro h
   ·cases h; exact (.p _)
   ·refine lpC (τ := Int × Int) (fun ⟨n18, i19⟩ => (.any :: iI deep :: iI most :: .ptr 0 0 :: a2 (.any :: iI n18 :: iI i19 :: a16 (a16 (a8 (a2 (.any :: []))))) : List AV)) (fun ⟨_, _⟩ => (.cells (iI v.Kind :: iW v.N' :: iS v.Text :: .p (.slice 4 (Q0.rows v.Items)) :: []) :: [] : List AObj)) (fun n0 ⟨n18, i19⟩ => X5 rz N v deep most n0 n18 i19) (1, 0) h (fun i => i) ⟨(rA <| rE rfl <| rE rfl <| rE rfl <| rW <| rA <| rE rfl <| rE rfl <| rX <| rX <| rX <| rX <| rX <| rW <| rA <| rN), (hE rfl <| hN), rfl, rfl, (roE rfl <| roN)⟩ fun n0 ⟨n18, i19⟩ h => ?_
    simp only [X5] at h
    apply iU h <;> intro h
    ·apply iU h <;> intro h
     ·refine Q0.xR h fun y22 h => ?_
      refine cP h hy1 (.cons q4 p2) fun v24 h => ?_
      show Exists _
      exact ⟨(n0, (IntKind.wrap .i64 (n18 + v24)), (IntKind.wrap .i64 (i19 + 1))), h, Nat.lt_succ_self _, (fun i => i), ⟨(rA <| rE rfl <| rE rfl <| rE rfl <| rW <| rA <| rE rfl <| rE rfl <| rX <| rX <| rX <| rX <| rX <| rW <| rA <| rN), (hE rfl <| hN), rfl, rfl, (roE rfl <| roN)⟩⟩
     ·cases h; exact (.p _)
    ·cases h; exact (.p _)
def Xd : Nat → Q0 → Int → Int → Option (Int)
 | 0 => fun _ _ _ => none
 | N + 1 => U2 (Xd N) N
theorem Q39 {N} {v} {deep} {most} {r} (h : Xd N v deep most = some r) : Zo Tryz.prog G1 66 [.agg (Q0.cells v), .int .i64 deep, .int .i64 most] (.int .i64 r) := by
 induction N generalizing v deep most r with
 | zero => simp [Xd] at h
 | succ N ih => exact Q38 (fun h => ih h) h
def Y9 (N : Nat) (v : Q0) : Option (Bool) :=
 (Xd N v 6 40).bind fun v1 =>
 some (Q8 .leq v1 40)
theorem Us {N} {v} {r} (h : Y9 N v = some r) : Zo Tryz.prog G1 20 [.agg (Q0.cells v)] (.bool r) := by
 refine Q3 k20 ?_
 unfold Y9 at h
 refine cP h Q39 (.cons q4 p2) fun v1 h => ?_
 cases h; exact (.p _)
def Xz (_N : Nat) (v : Q0) : Option (Bool) :=
 cond (Q6m .neq v.Text [])
 (some false)
 (cond (!(Q8 .eql v.Kind 24))
 (cond (Q8 .neq v.N' 0)
 (some false)
 (cond (Q8 .eql v.Kind 24)
 (cond (Q8 .geq v.N' 1)
 (some (Q8 .leq v.N' 24))
 (some false))
 (cond (Q8 .eql v.Kind 25)
 (some (Q8 .eql ((Q0.rows v.Items).length : Int) 2))
 (cond (Q8 .neq v.Kind 23)
 (some true)
 (some (Q8 .eql ((((Q0.rows v.Items).length : Int) : Int).tmod 2) 0))))))
 (cond (Q8 .eql v.Kind 24)
 (cond (Q8 .geq v.N' 1)
 (some (Q8 .leq v.N' 24))
 (some false))
 (cond (Q8 .eql v.Kind 25)
 (some (Q8 .eql ((Q0.rows v.Items).length : Int) 2))
 (cond (Q8 .neq v.Kind 23)
 (some true)
 (some (Q8 .eql ((((Q0.rows v.Items).length : Int) : Int).tmod 2) 0))))))
theorem Q1d {N} {v} {r} (h : Xz N v = some r) : Zo Tryz.prog G1 99 [.agg (Q0.cells v)] (.bool r) := by
 refine Q3 k99 ?_
 unfold Xz at h
 apply iU h <;> intro h
 ·cases h; exact (.p _)
 ·apply iU h <;> intro h
  ·apply iU h <;> intro h
   ·cases h; exact (.p _)
   ·apply iU h <;> intro h
    ·apply iU h <;> intro h
     ·cases h; exact (.p _)
     ·cases h; exact (.p _)
    ·apply iU h <;> intro h
     ·cases h; exact (.p _)
     ·apply iU h <;> intro h
      ·cases h; exact (.p _)
      ·cases h; exact (.p _)
  ·apply iU h <;> intro h
   ·apply iU h <;> intro h
    ·cases h; exact (.p _)
    ·cases h; exact (.p _)
   ·apply iU h <;> intro h
    ·cases h; exact (.p _)
    ·apply iU h <;> intro h
     ·cases h; exact (.p _)
     ·cases h; exact (.p _)
def Zm (rv : Q0 → Int → Option (Int)) (N : Nat) (v : Q0) (most : Int) : Nat → Int → Option (Int)
 | 0, _ => none
 | n + 1, i42 =>
  cond (Q8 .lss i42 ((Q0.rows v.Items).length : Int))
  (cond (Q8 .eql v.Kind 24)
  ((idx v.Items i42).bind fun y45 =>
  cond (Q8 .neq (IntKind.wrap .u64 y45.Kind) v.N')
  (some 8)
  ((idx v.Items i42).bind fun y48 =>
  (rv y48 (IntKind.wrap .i64 (most - 1))).bind fun v50 =>
  cond (Q8 .neq v50 0)
  (some v50)
  (Zm rv N v most n (IntKind.wrap .i64 (i42 + 1)))))
  ((idx v.Items i42).bind fun y53 =>
  (rv y53 (IntKind.wrap .i64 (most - 1))).bind fun v55 =>
  cond (Q8 .neq v55 0)
  (some v55)
  (Zm rv N v most n (IntKind.wrap .i64 (i42 + 1)))))
  (cond (Q8 .eql v.Kind 23)
  ((Wo N v.Items).bind fun v59 =>
  cond v59
  (some 16)
  (some 0))
  (some 0))
def Vq (rv : Q0 → Int → Option (Int)) (N : Nat) (v : Q0) (most : Int) : Option (Int) :=
 cond (Q8 .lss v.Kind 1)
 (some 8)
 (cond (Q8 .gtr v.Kind 25)
 (some 8)
 (cond (Q8 .leq v.Kind 21)
 ((Ym N v).bind fun v4 =>
 some v4)
 (cond (Q8 .eql most 0)
 (some 14)
 ((Xz N v).bind fun v7 =>
 cond (!v7)
 (some 2)
 (cond (Q8 .gtr ((Q0.rows v.Items).length : Int) 1000)
 (some 4)
 (Zm rv N v most N 0))))))
theorem Q1q {rv : Q0 → Int → Option (Int)} (hx1 : ∀ {v} {most} {r}, rv v most = some r → Zo Tryz.prog G1 68 [.agg (Q0.cells v), .int .i64 most] (.int .i64 r)) {N} {v} {most} {r} (h : Vq rv N v most = some r) : Zo Tryz.prog G1 68 [.agg (Q0.cells v), .int .i64 most] (.int .i64 r) := by
 refine Q3 k68 ?_
 unfold Vq at h
 apply iU h <;> intro h
 ·cases h; exact (.p _)
 ·apply iU h <;> intro h
  ·cases h; exact (.p _)
  ·apply iU h <;> intro h
   ·refine cP h Vy (.cons q4 .nil) fun v4 h => ?_
    cases h; exact (.p _)
   ·apply iU h <;> intro h
    ·cases h; exact (.p _)
    ·refine cP h Q1d (.cons q4 .nil) fun v7 h => ?_
     apply iU h <;> intro h
     ·cases h; exact (.p _)
     ·apply iU h <;> intro h
      ·cases h; exact (.p _)
      ·refine lpC (τ := Int) (fun i42 => (.any :: iI most :: .ptr 0 0 :: .any :: .any :: iI i42 :: a16 (a16 (a16 (a16 (a2 (.any :: []))))) : List AV)) (fun _ => (.cells (iI v.Kind :: iW v.N' :: iS v.Text :: .p (.slice 4 (Q0.rows v.Items)) :: []) :: [] : List AObj)) (fun n0 i42 => Zm rv N v most n0 i42) (0) h (fun i => i) ⟨(rA <| rE rfl <| rE rfl <| rW <| rE rfl <| rX <| rX <| rX <| rX <| rX <| rX <| rX <| rX <| rW <| rA <| rN), (hE rfl <| hN), rfl, rfl, (roE rfl <| roN)⟩ fun n0 i42 h => ?_
       simp only [Zm] at h
       apply iU h <;> intro h
       ·refine Qx ?_
        apply iU h <;> intro h
        ·refine Q0.xR h fun y45 h => ?_
         apply iU h <;> intro h
         ·cases h; exact (.p _)
         ·refine Q0.xR h fun y48 h => ?_
          refine cP h hx1 (.cons q4 p1) fun v50 h => ?_
          apply iU h <;> intro h
          ·cases h; exact (.p _)
          ·show Exists _
           exact ⟨(n0, (IntKind.wrap .i64 (i42 + 1))), h, Nat.lt_succ_self _, (fun i => i), ⟨(rA <| rE rfl <| rE rfl <| rW <| rE rfl <| rX <| rX <| rX <| rX <| rX <| rX <| rX <| rX <| rW <| rA <| rN), (hE rfl <| hN), rfl, rfl, (roE rfl <| roN)⟩⟩
        ·refine Q0.xR h fun y53 h => ?_
         refine cP h hx1 (.cons q4 p1) fun v55 h => ?_
         apply iU h <;> intro h
         ·cases h; exact (.p _)
         ·show Exists _
          exact ⟨(n0, (IntKind.wrap .i64 (i42 + 1))), h, Nat.lt_succ_self _, (fun i => i), ⟨(rA <| rE rfl <| rE rfl <| rW <| rE rfl <| rX <| rX <| rX <| rX <| rX <| rX <| rX <| rX <| rW <| rA <| rN), (hE rfl <| hN), rfl, rfl, (roE rfl <| roN)⟩⟩
       ·apply iU h <;> intro h
        ·refine cP h Q25 p1 fun v59 h => ?_
         apply iU h <;> intro h
         ·cases h; exact (.p _)
         ·cases h; exact (.p _)
        ·cases h; exact (.p _)
def Yf : Nat → Q0 → Int → Option (Int)
 | 0 => fun _ _ => none
 | N + 1 => Vq (Yf N) N
theorem Q1v {N} {v} {most} {r} (h : Yf N v most = some r) : Zo Tryz.prog G1 68 [.agg (Q0.cells v), .int .i64 most] (.int .i64 r) := by
 induction N generalizing v most r with
 | zero => simp [Yf] at h
 | succ N ih => exact Q1q (fun h => ih h) h
def Wm (N : Nat) (v : Q0) (most : Int) : Option (Int) :=
 cond (Q8 .lss most 0)
 (some 2)
 (cond (Q8 .gtr most 32)
 (some 2)
 ((Yf N v most).bind fun v3 =>
 some v3))
theorem Q1p {N} {v} {most} {r} (h : Wm N v most = some r) : Zo Tryz.prog G1 23 [.agg (Q0.cells v), .int .i64 most] (.int .i64 r) := by
 refine Q3 k23 ?_
 unfold Wm at h
 apply iU h <;> intro h
 ·cases h; exact (.p _)
 ·apply iU h <;> intro h
  ·cases h; exact (.p _)
  ·refine cP h Q1v (.cons q4 p1) fun v3 h => ?_
   cases h; exact (.p _)
def W5 (N : Nat) (w : Zt) : Option ((Unit) × Zt) :=
 (V0 N (IntKind.wrap .u64 0) 4).bind fun v1 =>
 cond (!(Nat.beq v1.length 0)) (cond (Nat.ble ((w.buffer.b.length + v1.length + 4096) * 1) 17592186044416) ((V0 N (IntKind.wrap .u64 (IntKind.wrap .i64 (2 + (IntKind.wrap .i64 (((w.f.Ext.length : Int) : Int).tdiv 4))))) 1).bind fun v5 =>
 cond (!(Nat.beq v5.length 0)) (cond (Nat.ble (((w.buffer.b.length + v1.length) + v5.length + 4096) * 1) 17592186044416) ((V0 N (IntKind.wrap .u64 w.f.Type') 1).bind fun v9 =>
 cond (!(Nat.beq v9.length 0)) (cond (Nat.ble ((((w.buffer.b.length + v1.length) + v5.length) + v9.length + 4096) * 1) 17592186044416) ((V0 N (IntKind.wrap .u64 w.f.Channel) 2).bind fun v13 =>
 cond (!(Nat.beq v13.length 0)) (cond (Nat.ble (((((w.buffer.b.length + v1.length) + v5.length) + v9.length) + v13.length + 4096) * 1) 17592186044416) (cond (Nat.beq w.f.Ext.length 0)
 (some ((), (⟨(⟨((((w.buffer.b ++ (v1.map fun b => (b.toNat : Int))) ++ (v5.map fun b => (b.toNat : Int))) ++ (v9.map fun b => (b.toNat : Int))) ++ (v13.map fun b => (b.toNat : Int)))⟩ : Vm), w.f⟩ : Zt)))
 (cond (Nat.ble ((((((w.buffer.b.length + v1.length) + v5.length) + v9.length) + v13.length) + w.f.Ext.length + 4096) * 1) 17592186044416) (some ((), (⟨(⟨(((((w.buffer.b ++ (v1.map fun b => (b.toNat : Int))) ++ (v5.map fun b => (b.toNat : Int))) ++ (v9.map fun b => (b.toNat : Int))) ++ (v13.map fun b => (b.toNat : Int))) ++ (w.f.Ext.map fun b => (b.toNat : Int)))⟩ : Vm), w.f⟩ : Zt))) none)) none) none) none) none) none) none) none) none
theorem Q19 {N} {w} {r} (h : W5 N w = some r) : GC Tryz.prog G1 69 (.ptr 0 0 :: []) (.cells (.slice 1 1 0 w.buffer.b.length :: .p (.int .i64 w.f.Type') :: .p (.int .i64 w.f.Channel) :: .p (.str w.f.Ext) :: .p (.slice 4 (Q0.rows w.f.Values)) :: []) :: .cells (X3 (cI .u8) w.buffer.b) :: []) (.tuple []) (.cells (.slice 1 2 0 r.2.buffer.b.length :: .p (.int .i64 r.2.f.Type') :: .p (.int .i64 r.2.f.Channel) :: .p (.str r.2.f.Ext) :: .p (.slice 4 (Q0.rows r.2.f.Values)) :: []) :: .dead :: .cells (X3 (cI .u8) r.2.buffer.b) :: []) := by
 refine Q06 k69 (Nat.le_of_ble_eq_true rfl) ?_
 unfold W5 at h
 refine Gj Qsy ?_
 refine cP h V9 p2 fun v1 h => ?_
 refine Gj k70 ?_
 refine Q7a (b := v1) ?_
 obtain ⟨hk3, h⟩ := Q9j h
 refine ifF (Qnf hk3) ?_
 obtain ⟨hk4, h⟩ := Q9j h
 refine Q7c (J5 (c := (cI .u8)) (e := 1) (l := w.buffer.b) (fun _ => rfl) (by simp) hk4) ?_
 refine Gz (c := (cI .u8)) (l := w.buffer.b) (v1.map fun b => (b.toNat : Int)) rfl ?_
 refine Jq 11 rfl rfl ?_
 refine Gj Qsy ?_
 refine cP h V9 p2 fun v5 h => ?_
 refine Gj k70 ?_
 refine Q7a (b := v5) ?_
 obtain ⟨hk7, h⟩ := Q9j h
 refine ifF (Qnf hk7) ?_
 obtain ⟨hk8, h⟩ := Q9j h
 refine Q7c (J5 (c := (cI .u8)) (e := 1) (l := (w.buffer.b ++ (v1.map fun b => (b.toNat : Int)))) (fun _ => rfl) (by simp) hk8) ?_
 refine Gz (c := (cI .u8)) (l := (w.buffer.b ++ (v1.map fun b => (b.toNat : Int)))) (v5.map fun b => (b.toNat : Int)) rfl ?_
 refine Jq 8 rfl rfl ?_
 refine Gj Qsy ?_
 refine cP h V9 p2 fun v9 h => ?_
 refine Gj k70 ?_
 refine Q7a (b := v9) ?_
 obtain ⟨hk11, h⟩ := Q9j h
 refine ifF (Qnf hk11) ?_
 obtain ⟨hk12, h⟩ := Q9j h
 refine Q7c (J5 (c := (cI .u8)) (e := 1) (l := ((w.buffer.b ++ (v1.map fun b => (b.toNat : Int))) ++ (v5.map fun b => (b.toNat : Int)))) (fun _ => rfl) (by simp <;> omega) hk12) ?_
 refine Gz (c := (cI .u8)) (l := ((w.buffer.b ++ (v1.map fun b => (b.toNat : Int))) ++ (v5.map fun b => (b.toNat : Int)))) (v9.map fun b => (b.toNat : Int)) rfl ?_
 refine Jq 8 rfl rfl ?_
 refine Gj Qsy ?_
 refine cP h V9 p2 fun v13 h => ?_
 refine Gj k70 ?_
 refine Q7a (b := v13) ?_
 obtain ⟨hk15, h⟩ := Q9j h
 refine ifF (Qnf hk15) ?_
 obtain ⟨hk16, h⟩ := Q9j h
 refine Q7c (J5 (c := (cI .u8)) (e := 1) (l := (((w.buffer.b ++ (v1.map fun b => (b.toNat : Int))) ++ (v5.map fun b => (b.toNat : Int))) ++ (v9.map fun b => (b.toNat : Int)))) (fun _ => rfl) (by simp <;> omega) hk16) ?_
 refine Gz (c := (cI .u8)) (l := (((w.buffer.b ++ (v1.map fun b => (b.toNat : Int))) ++ (v5.map fun b => (b.toNat : Int))) ++ (v9.map fun b => (b.toNat : Int)))) (v13.map fun b => (b.toNat : Int)) rfl ?_
 refine Jq 8 rfl rfl ?_
 refine Gj k70 ?_
 refine Q7a (b := w.f.Ext) ?_
 apply iU h <;> intro h
 ·obtain rfl := Zn h
  show Exists _
  exact ⟨(rho [0, 1, 5]), ⟨(rE rfl <| rN), (hC rfl (rL (by simp <;> omega) rfl <| rE rfl <| rE rfl <| rE rfl <| rE rfl <| rN) <| hD <| hO rfl <| hN), rfl, rfl, (roE rfl <| roE rfl <| roE (Qa _ _ _) <| roN)⟩⟩
 ·obtain ⟨hk18, h⟩ := Q9j h
  refine Q7c (J5 (c := (cI .u8)) (e := 1) (l := ((((w.buffer.b ++ (v1.map fun b => (b.toNat : Int))) ++ (v5.map fun b => (b.toNat : Int))) ++ (v9.map fun b => (b.toNat : Int))) ++ (v13.map fun b => (b.toNat : Int)))) (fun _ => rfl) (by simp <;> omega) hk18) ?_
  refine Gz (c := (cI .u8)) (l := ((((w.buffer.b ++ (v1.map fun b => (b.toNat : Int))) ++ (v5.map fun b => (b.toNat : Int))) ++ (v9.map fun b => (b.toNat : Int))) ++ (v13.map fun b => (b.toNat : Int)))) (w.f.Ext.map fun b => (b.toNat : Int)) rfl ?_
  obtain rfl := Zn h
  show Exists _
  exact ⟨(rho [0, 1, 6]), ⟨(rE rfl <| rN), (hC rfl (rL (by simp <;> omega) rfl <| rE rfl <| rE rfl <| rE rfl <| rE rfl <| rN) <| hD <| hO rfl <| hN), rfl, rfl, (roE rfl <| roE rfl <| roE (Qa _ _ _) <| roN)⟩⟩
def W4 (N : Nat) (w : Zt) : Option ((Unit) × Zt) :=
 (V0 N (IntKind.wrap .u64 (w.buffer.b.length : Int)) 4).bind fun v1 =>
 cond (Nat.ble 1 w.buffer.b.length) (some ((), (⟨(⟨(((v1.map fun b => (b.toNat : Int)).take w.buffer.b.length) ++ (w.buffer.b : List Int).drop ((v1.map fun b => (b.toNat : Int)).take w.buffer.b.length).length)⟩ : Vm), w.f⟩ : Zt))) none
theorem Q1f {N} {w} {r} (h : W4 N w = some r) : GC Tryz.prog G1 71 (.ptr 0 0 :: []) (.cells (.slice 1 1 0 w.buffer.b.length :: .p (.int .i64 w.f.Type') :: .p (.int .i64 w.f.Channel) :: .p (.str w.f.Ext) :: .p (.slice 4 (Q0.rows w.f.Values)) :: []) :: .cells (X3 (cI .u8) w.buffer.b) :: []) (.tuple []) (.cells (.slice 1 2 0 r.2.buffer.b.length :: .p (.int .i64 r.2.f.Type') :: .p (.int .i64 r.2.f.Channel) :: .p (.str r.2.f.Ext) :: .p (.slice 4 (Q0.rows r.2.f.Values)) :: []) :: .dead :: .cells (X3 (cI .u8) r.2.buffer.b) :: []) := by
 refine Q06 k71 (Nat.le_of_ble_eq_true rfl) ?_
 unfold W4 at h
 refine Qx ?_
 refine cD h V9 p2 fun v1 h => ?_
 refine Q7a (b := v1) ?_
 obtain ⟨hk3, h⟩ := Q9j h
 refine Q7c (Qmq (c := (cI .u8)) (l := (w.buffer.b : List Int)) (fun _ => rfl) (by simp) hk3) ?_
 refine Qqy (c := (cI .u8)) (l := (w.buffer.b : List Int)) (new := (v1.map fun b => (b.toNat : Int))) (fun _ => rfl) ?_
 obtain rfl := Zn h
 show Exists _
 exact ⟨(rho [0, 1, 1]), ⟨(rE rfl <| rN), (hC rfl (rL (by simp <;> omega) rfl <| rE rfl <| rE rfl <| rE rfl <| rE rfl <| rN) <| hD <| hO rfl <| hN), rfl, rfl, (roE rfl <| roE rfl <| roE (Qa _ _ _) <| roN)⟩⟩
def Um (N : Nat) (v : Q0) (most : Int) : Option (Int × Int) :=
 (Wx N v most).bind fun v1 =>
 cond (Q8 .neq v1 0)
 (some (0, v1))
 ((Xn N v).bind fun v4 =>
 (W7 N v4).bind fun v6 =>
 (Yw N v6).bind fun v8 =>
 (Zj N v6 v8).bind fun v10 =>
 some ((IntKind.wrap .i64 (1 + v10)), 0))
theorem Q5i {N} {v} {most} {r} (h : Um N v most = some r) : Zo Tryz.prog G1 33 [.agg (Q0.cells v), .int .i64 most] (.tuple [.int .i64 r.1, .int .i64 r.2]) := by
 refine Q3 k33 ?_
 unfold Um at h
 refine cP h Ji (.cons q4 p1) fun v1 h => ?_
 apply iU h <;> intro h
 ·obtain rfl := Zn h; exact u2
 ·refine cP h Q11 (.cons q4 .nil) fun v4 h => ?_
  refine cP h Gv p1 fun v6 h => ?_
  refine Qx ?_
  refine cD h U4 (.cons (Frz.agg' (.cons (.p _) (.cons (.p _) p5))) .nil) fun v8 h => ?_
  refine cD h Jz (.cons (Frz.agg' (.cons (.p _) (.cons (.p _) p5))) p1) fun v10 h => ?_
  obtain rfl := Zn h; exact u2
def Ub (_N : Nat) (l : W8) : Option (Bool) :=
 cond (Q8 .geq l.MaxPacket 16)
 (cond (Q8 .leq l.MaxPacket 1048576)
 (cond (Q8 .geq l.MaxDepth 0)
 (some (Q8 .leq l.MaxDepth 32))
 (some false))
 (some false))
 (some false)
theorem Q54 {N} {l} {r} (h : Ub N l = some r) : Zo Tryz.prog G1 77 [.agg (W8.cells l)] (.bool r) := by
 refine Q3 k77 ?_
 unfold Ub at h
 apply iU h <;> intro h
 ·apply iU h <;> intro h
  ·apply iU h <;> intro h
   ·cases h; exact (.p _)
   ·cases h; exact (.p _)
  ·cases h; exact (.p _)
 ·cases h; exact (.p _)
def U7 (_N : Nat) (n_0 : Int) : Option (Bool) :=
 cond (Q8 .eql n_0 0)
 (some true)
 (some (Q8 .eql n_0 1))
theorem Q57 {N} {n_0} {r} (h : U7 N n_0 = some r) : Zo Tryz.prog G1 79 [.int .i64 n_0] (.bool r) := by
 refine Q3 k79 ?_
 unfold U7 at h
 apply iU h <;> intro h
 ·cases h; exact (.p _)
 ·cases h; exact (.p _)
def W9 (N : Nat) (f : Qw) (l : W8) : Nat → Int → Int → Option (Int)
 | 0, _, _ => none
 | n + 1, all44, s45 =>
  cond (Q8 .lss s45 ((Q0.rows f.Values).length : Int))
  ((idx f.Values s45).bind fun y47 =>
  (Um N y47 l.MaxDepth).bind fun v49 =>
  W9 N f l n (IntKind.wrap .i64 (all44 + v49.1)) (IntKind.wrap .i64 (s45 + 1)))
  (cond (Q8 .gtr all44 l.MaxPacket)
  (some 4)
  (some 0))
def Wb (N : Nat) (f : Qw) (l : W8) : Nat → Int → Option (Int)
 | 0, _ => none
 | n + 1, s25 =>
  cond (Q8 .lss s25 ((Q0.rows f.Values).length : Int))
  ((idx f.Values s25).bind fun y27 =>
  (Wx N y27 l.MaxDepth).bind fun v29 =>
  cond (Q8 .neq v29 0)
  (some v29)
  (Wb N f l n (IntKind.wrap .i64 (s25 + 1))))
  (W9 N f l N (IntKind.wrap .i64 (8 + (f.Ext.length : Int))) 0)
def U8 (N : Nat) (f : Qw) (l : W8) : Option (Int) :=
 (Ub N l).bind fun v1 =>
 cond (!v1)
 (some 2)
 ((U7 N f.Type').bind fun v4 =>
 cond (!v4)
 (some 8)
 (cond (Q8 .lss f.Channel 0)
 (some 2)
 (cond (Q8 .gtr f.Channel 65535)
 (some 2)
 (cond (Q8 .gtr (f.Ext.length : Int) 1012)
 (some 2)
 (cond (Q8 .neq (((f.Ext.length : Int) : Int).tmod 4) 0)
 (some 2)
 (cond (Q8 .gtr ((Q0.rows f.Values).length : Int) 1000)
 (some 4)
 (Wb N f l N 0)))))))
theorem Q4w {N} {f} {l} {r} (h : U8 N f l = some r) : Zo Tryz.prog G1 42 [.agg (Qw.cells f), .agg (W8.cells l)] (.int .i64 r) := by
 refine Q3 k42 ?_
 unfold U8 at h
 refine cP h Q54 (.cons q2 .nil) fun v1 h => ?_
 apply iU h <;> intro h
 ·cases h; exact (.p _)
 ·refine cP h Q57 p1 fun v4 h => ?_
  apply iU h <;> intro h
  ·cases h; exact (.p _)
  ·apply iU h <;> intro h
   ·cases h; exact (.p _)
   ·apply iU h <;> intro h
    ·cases h; exact (.p _)
    ·apply iU h <;> intro h
     ·cases h; exact (.p _)
     ·apply iU h <;> intro h
      ·cases h; exact (.p _)
      ·apply iU h <;> intro h
       ·cases h; exact (.p _)
       ·refine lpC (τ := Int) (fun s25 => (.any :: .any :: .ptr 0 0 :: .ptr 1 0 :: a16 (a16 (a8 (a2 (.p (.slice 4 (Q0.rows f.Values)) :: iI ((Q0.rows f.Values).length : Int) :: iI s25 :: a16 (a16 (a4 (.any :: []))))))) : List AV)) (fun _ => (.cells (iI f.Type' :: iI f.Channel :: iS f.Ext :: .p (.slice 4 (Q0.rows f.Values)) :: []) :: .cells (iI l.MaxPacket :: iI l.MaxDepth :: []) :: [] : List AObj)) (fun n0 s25 => Wb N f l n0 s25) (0) h (fun i => i) ⟨(rW <| rE rfl <| rE rfl <| rX <| rX <| rX <| rX <| rX <| rW <| rE rfl <| rE rfl <| rE rfl <| rX <| rX <| rX <| rX <| rV <| rA <| rN), (hE rfl <| hE rfl <| hN), rfl, rfl, (roE rfl <| roE rfl <| roN)⟩ fun n0 s25 h => ?_
        simp only [Wb] at h
        apply iU h <;> intro h
        ·refine Q0.xR h fun y27 h => ?_
         refine cP h Ji (.cons q4 p1) fun v29 h => ?_
         apply iU h <;> intro h
         ·cases h; exact (.p _)
         ·show Exists _
          exact ⟨(n0, (IntKind.wrap .i64 (s25 + 1))), h, Nat.lt_succ_self _, (fun i => i), ⟨(rW <| rE rfl <| rE rfl <| rX <| rX <| rX <| rX <| rX <| rW <| rE rfl <| rE rfl <| rE rfl <| rX <| rX <| rX <| rX <| rV <| rA <| rN), (hE rfl <| hE rfl <| hN), rfl, rfl, (roE rfl <| roE rfl <| roN)⟩⟩
        ·refine lpC (τ := Int × Int) (fun ⟨all44, s45⟩ => (a2 (.any :: .ptr 1 0 :: a4 (iI all44 :: a16 (a16 (a16 (a8 (.p (.slice 4 (Q0.rows f.Values)) :: iI ((Q0.rows f.Values).length : Int) :: iI s45 :: a16 (a2 ([])))))))) : List AV)) (fun ⟨_, _⟩ => (.cells (iI f.Type' :: iI f.Channel :: iS f.Ext :: .p (.slice 4 (Q0.rows f.Values)) :: []) :: .cells (iI l.MaxPacket :: iI l.MaxDepth :: []) :: [] : List AObj)) (fun n1 ⟨all44, s45⟩ => W9 N f l n1 all44 s45) ((IntKind.wrap .i64 (8 + (f.Ext.length : Int))), 0) h (fun i => i) ⟨(rW <| rA <| rE rfl <| rV <| rE rfl <| rX <| rX <| rX <| rX <| rX <| rX <| rX <| rE rfl <| rE rfl <| rE rfl <| rX <| rX <| rW <| rN), (hE rfl <| hE rfl <| hN), rfl, rfl, (roE rfl <| roE rfl <| roN)⟩ fun n1 ⟨all44, s45⟩ h => ?_
         simp only [W9] at h
         apply iU h <;> intro h
         ·refine Q0.xR h fun y47 h => ?_
          refine cP h Q5i (.cons q4 p1) fun v49 h => ?_
          show Exists _
          exact ⟨(n1, (IntKind.wrap .i64 (all44 + v49.1)), (IntKind.wrap .i64 (s45 + 1))), h, Nat.lt_succ_self _, (fun i => i), ⟨(rW <| rA <| rE rfl <| rV <| rE rfl <| rX <| rX <| rX <| rX <| rX <| rX <| rX <| rE rfl <| rE rfl <| rE rfl <| rX <| rX <| rW <| rN), (hE rfl <| hE rfl <| hN), rfl, rfl, (roE rfl <| roE rfl <| roN)⟩⟩
         ·apply iU h <;> intro h
          ·cases h; exact (.p _)
          ·cases h; exact (.p _)
def Xb (N : Nat) (f : Qw) (l : W8) (v4 : (Unit) × Zt) : Nat → Int → (List Int) → Option ((List UInt8) × Int)
 | 0, _, _ => none
 | n + 1, s22, l23 =>
  cond (Q8 .lss s22 ((Q0.rows f.Values).length : Int))
  ((idx f.Values s22).bind fun y25 =>
  (U9 N y25 l.MaxDepth).bind fun v27 =>
  cond (Nat.beq v27.1.length 0)
  (Xb N f l v4 n (IntKind.wrap .i64 (s22 + 1)) l23)
  (cond (Nat.ble ((l23.length + v27.1.length + 4096) * 1) 17592186044416) (Xb N f l v4 n (IntKind.wrap .i64 (s22 + 1)) (l23 ++ (v27.1.map fun b => (b.toNat : Int)))) none))
  ((W4 N (⟨(⟨l23⟩ : Vm), v4.2.f⟩ : Zt)).bind fun v31 =>
  some ((v31.2.buffer.b.map fun n => UInt8.ofNat n.toNat), 0))
def Xv (N : Nat) (f : Qw) (l : W8) : Option ((List UInt8) × Int) :=
 (U8 N f l).bind fun v1 =>
 cond (Q8 .neq v1 0)
 (some ([], v1))
 ((W5 N (⟨(⟨[]⟩ : Vm), f⟩ : Zt)).bind fun v4 =>
 Xb N f l v4 N 0 v4.2.buffer.b)
theorem Jj {N} {f} {l} {r} (h : Xv N f l = some r) : Zo Tryz.prog G1 26 [.agg (Qw.cells f), .agg (W8.cells l)] (.tuple [.str r.1, .int .i64 r.2]) := by
 refine Q3 k26 ?_
 unfold Xv at h
 refine cP h Q4w (.cons q4 (.cons q2 .nil)) fun v1 h => ?_
 apply iU h <;> intro h
 ·obtain rfl := Zn h; exact u2
 ·refine cG h Q19 fun v4 h => ?_
  refine ⟨rho [2, 4], (.cells (iI f.Type' :: iI f.Channel :: iS f.Ext :: .p (.slice 4 (Q0.rows f.Values)) :: []) :: .cells (iI l.MaxPacket :: iI l.MaxDepth :: []) :: .cells (.slice 1 3 0 v4.2.buffer.b.length :: iI v4.2.f.Type' :: iI v4.2.f.Channel :: iS v4.2.f.Ext :: .p (.slice 4 (Q0.rows v4.2.f.Values)) :: []) :: .cells (X3 (cI .u8) v4.2.buffer.b) :: []), .tuple [], ⟨(rE rfl <| rN), (hC rfl (rS <| rE rfl <| rE rfl <| rE rfl <| rE rfl <| rN) <| hV lb <| hN), rfl, rfl, (roE rfl <| roE (Qa _ _ _) <| roN), rfl, (fK rfl rfl <| fK rfl rfl <| fR 0 rfl rfl rfl rfl <| fO 2 rfl rfl rfl <| fN), rfl⟩, ?_⟩
  refine lpC (τ := Int × (List Int)) (fun ⟨s22, _⟩ => (a2 (.any :: .ptr 1 0 :: a2 (.any :: .ptr 2 0 :: a8 (a4 (a2 (.p (.slice 4 (Q0.rows f.Values)) :: iI ((Q0.rows f.Values).length : Int) :: iI s22 :: a16 (a2 (.any :: []))))))) : List AV)) (fun ⟨_, l23⟩ => (.cells (iI f.Type' :: iI f.Channel :: iS f.Ext :: .p (.slice 4 (Q0.rows f.Values)) :: []) :: .cells (iI l.MaxPacket :: iI l.MaxDepth :: []) :: .cells (.slice 1 4 0 l23.length :: iI v4.2.f.Type' :: iI v4.2.f.Channel :: iS v4.2.f.Ext :: .p (.slice 4 (Q0.rows v4.2.f.Values)) :: []) :: .dead :: .cells (X3 (cI .u8) l23) :: [] : List AObj)) (fun n0 ⟨s22, l23⟩ => Xb N f l v4 n0 s22 l23) (0, v4.2.buffer.b) h (rho [0, 1, 2, 3, 3]) ⟨(rW <| rA <| rE rfl <| rW <| rA <| rE rfl <| rX <| rV <| rW <| rE rfl <| rE rfl <| rE rfl <| rX <| rX <| rW <| rA <| rN), (hE rfl <| hE rfl <| hE rfl <| hD <| hO rfl <| hN), rfl, rfl, (roE rfl <| roE rfl <| roE rfl <| roE rfl <| roE (Qa _ _ _) <| roN)⟩ fun n0 ⟨s22, l23⟩ h => ?_
  simp only [Xb] at h
  apply iU h <;> intro h
  ·refine Q0.xR h fun y25 h => ?_
   refine cP h Q5h (.cons q4 p1) fun v27 h => ?_
   refine Gj k70 ?_
   refine Q7a (b := v27.1) ?_
   apply iU h <;> intro h
   ·show Exists _
    exact ⟨(n0, (IntKind.wrap .i64 (s22 + 1)), l23), h, Nat.lt_succ_self _, (fun i => i), ⟨(rW <| rA <| rE rfl <| rW <| rA <| rE rfl <| rX <| rV <| rW <| rE rfl <| rE rfl <| rE rfl <| rX <| rX <| rW <| rA <| rN), (hE rfl <| hE rfl <| hE rfl <| hD <| hO rfl <| hN), rfl, rfl, (roE rfl <| roE rfl <| roE rfl <| roE rfl <| roE (Qa _ _ _) <| roN)⟩⟩
   ·obtain ⟨hk30, h⟩ := Q9j h
    refine Q7c (J5 (c := (cI .u8)) (e := 1) (l := l23) (fun _ => rfl) (by simp) hk30) ?_
    refine Gz (c := (cI .u8)) (l := l23) (v27.1.map fun b => (b.toNat : Int)) rfl ?_
    show Exists _
    exact ⟨(n0, (IntKind.wrap .i64 (s22 + 1)), (l23 ++ (v27.1.map fun b => (b.toNat : Int)))), h, Nat.lt_succ_self _, (rho [0, 1, 2, 3, 6]), ⟨(rW <| rA <| rE rfl <| rW <| rA <| rE rfl <| rX <| rV <| rW <| rE rfl <| rE rfl <| rE rfl <| rX <| rX <| rW <| rA <| rN), (hE rfl <| hE rfl <| hC rfl (rL (by simp) rfl <| rE rfl <| rE rfl <| rE rfl <| rE rfl <| rN) <| hD <| hO rfl <| hN), rfl, rfl, (roE rfl <| roE rfl <| roE rfl <| roE rfl <| roE (Qa _ _ _) <| roN)⟩⟩
  ·refine cG h Q1f fun v31 h => ?_
   refine ⟨rho [2, 4], (.cells (iI f.Type' :: iI f.Channel :: iS f.Ext :: .p (.slice 4 (Q0.rows f.Values)) :: []) :: .cells (iI l.MaxPacket :: iI l.MaxDepth :: []) :: .cells (.slice 1 5 0 v31.2.buffer.b.length :: iI v31.2.f.Type' :: iI v31.2.f.Channel :: iS v31.2.f.Ext :: .p (.slice 4 (Q0.rows v31.2.f.Values)) :: []) :: .dead :: .dead :: .cells (X3 (cI .u8) v31.2.buffer.b) :: []), .tuple [], ⟨(rE rfl <| rN), (hE rfl <| hO rfl <| hN), rfl, rfl, (roE rfl <| roE (Qa _ _ _) <| roN), rfl, (fK rfl rfl <| fK rfl rfl <| fR 0 rfl rfl rfl rfl <| fD <| fD <| fO 2 rfl rfl rfl <| fN), rfl⟩, ?_⟩
   refine Qk7 (l := v31.2.buffer.b) (by simp) ?_
   obtain rfl := Zn h; exact u2
def J1 (_N : Nat) : Option (W8) :=
 some (⟨4096, 6⟩ : W8)
theorem Q29 {N} {r} (h : J1 N = some r) : Zo Tryz.prog G1 36 [] (.agg (W8.cells r)) := by
 refine Q3 k36 ?_
 unfold J1 at h
 obtain rfl := Zn h; exact q2
def Wh (N : Nat) : Option (Bool) :=
 (J1 N).bind fun v1 =>
 (Xv N (⟨0, 1, [], []⟩ : Qw) v1).bind fun v3 =>
 cond (Q8 .eql v3.2 0)
 (some (Q6m .eql v3.1 [0, 0, 0, 8, 2, 0, 0, 1]))
 (some false)
theorem Q26 {N} {r} (h : Wh N = some r) : Zo Tryz.prog G1 24 [] (.bool r) := by
 refine Q3 k24 ?_
 unfold Wh at h
 refine cP h Q29 p0 fun v1 h => ?_
 refine cP h Jj (.cons q4n p1) fun v3 h => ?_
 apply iU h <;> intro h
 ·cases h; exact (.p _)
 ·cases h; exact (.p _)
def Zk (N : Nat) (f : Qw) : Nat → Int → Option (Bool)
 | 0, _ => none
 | n + 1, i16 =>
  cond (Q8 .lss i16 ((Q0.rows f.Values).length : Int))
  ((idx f.Values i16).bind fun y18 =>
  (Y9 N y18).bind fun v20 =>
  cond (!v20)
  (some false)
  (Zk N f n (IntKind.wrap .i64 (i16 + 1))))
  (some true)
def Xi (N : Nat) (f : Qw) : Option (Bool) :=
 cond (Q8 .gtr ((Q0.rows f.Values).length : Int) 6)
 (some false)
 (cond (Q8 .gtr (f.Ext.length : Int) 1100)
 (some false)
 (Zk N f N 0))
theorem Q0c {N} {f} {r} (h : Xi N f = some r) : Zo Tryz.prog G1 25 [.agg (Qw.cells f)] (.bool r) := by
 refine Q3 k25 ?_
 unfold Xi at h
 apply iU h <;> intro h
 ·cases h; exact (.p _)
 ·apply iU h <;> intro h
  ·cases h; exact (.p _)
  ·refine lpC (τ := Int) (fun i16 => (.any :: .ptr 0 0 :: .any :: iI i16 :: a16 (a8 ([])) : List AV)) (fun _ => (.cells (iI f.Type' :: iI f.Channel :: iS f.Ext :: .p (.slice 4 (Q0.rows f.Values)) :: []) :: [] : List AObj)) (fun n0 i16 => Zk N f n0 i16) (0) h (fun i => i) ⟨(rA <| rE rfl <| rA <| rE rfl <| rX <| rX <| rX <| rN), (hE rfl <| hN), rfl, rfl, (roE rfl <| roN)⟩ fun n0 i16 h => ?_
   simp only [Zk] at h
   apply iU h <;> intro h
   ·refine Q0.xR h fun y18 h => ?_
    refine cP h Us (.cons q4 .nil) fun v20 h => ?_
    apply iU h <;> intro h
    ·cases h; exact (.p _)
    ·show Exists _
     exact ⟨(n0, (IntKind.wrap .i64 (i16 + 1))), h, Nat.lt_succ_self _, (fun i => i), ⟨(rA <| rE rfl <| rA <| rE rfl <| rX <| rX <| rX <| rN), (hE rfl <| hN), rfl, rfl, (roE rfl <| roN)⟩⟩
   ·cases h; exact (.p _)
end
end
end Go.Av
