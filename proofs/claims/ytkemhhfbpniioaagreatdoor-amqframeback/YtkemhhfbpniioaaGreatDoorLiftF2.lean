/- The law. Part of a proof of a given statement: for every input the law returns true and the arguments read as before; no condition beyond the given row. -/
import Derived.Test.YtkemhhfbpniioaaGreatDoorLiftF1
namespace Go.Av
noncomputable section
open Go.Proofs
set_option maxRecDepth 100000
set_option maxHeartbeats 4000000
attribute [local irreducible] Ws Yj Q4y Q5p Q8 Q6o Q6k
section
def Ya (rv : Q0 → Int → Int → Option (Int)) (N : Nat) (v : Q0) (deep : Int) (most : Int) : Nat → Int → Int → Option (Int)
 | 0, _, _ => none
 | n + 1, n18, i19 =>
  cond (Q8 .lss i19 ((Q0.rows v.Items).length : Int))
  (cond (Q8 .leq n18 most)
  ((idx v.Items i19).bind fun y22 =>
  (rv y22 (IntKind.wrap .i64 (deep - 1)) (IntKind.wrap .i64 (most - n18))).bind fun v24 =>
  Ya rv N v deep most n (IntKind.wrap .i64 (n18 + v24)) (IntKind.wrap .i64 (i19 + 1)))
  (some n18))
  (some n18)
def V4 (rv : Q0 → Int → Int → Option (Int)) (N : Nat) (v : Q0) (deep : Int) (most : Int) : Option (Int) :=
 cond (Q8 .lss deep 0)
 (some (IntKind.wrap .i64 (most + 1)))
 (cond (Q8 .gtr ((Q0.rows v.Items).length : Int) most)
 (some (IntKind.wrap .i64 (most + 1)))
 (cond (Q8 .gtr (v.Text.length : Int) 400)
 (some (IntKind.wrap .i64 (most + 1)))
 (Ya rv N v deep most N 1 0)))
theorem Q1i {rv : Q0 → Int → Int → Option (Int)} (hx1 : ∀ {v} {deep} {most} {r}, rv v deep most = some r → Zs Tryz.prog G1 66 [.agg (Q0.cells v), .int .i64 deep, .int .i64 most] (.int .i64 r)) {N} {v} {deep} {most} {r} (h : V4 rv N v deep most = some r) : Zs Tryz.prog G1 66 [.agg (Q0.cells v), .int .i64 deep, .int .i64 most] (.int .i64 r) := by
 refine Q6 k66 ?_
 unfold V4 at h
 apply iU h <;> intro h
 ·cases h; exact (.p _)
 ·apply iU h <;> intro h
  ·cases h; exact (.p _)
  ·apply iU h <;> intro h
   ·cases h; exact (.p _)
   ·refine lpC (τ := Int × Int) (fun ⟨n18, i19⟩ => (.any :: iI deep :: iI most :: .ptr 0 0 :: a2 (.any :: iI n18 :: iI i19 :: a16 (a16 (a8 (a2 (.any :: []))))) : List AV)) (fun ⟨_, _⟩ => (.cells (iI v.Kind :: iW v.N' :: iS v.Text :: .p (.slice 4 (Q0.rows v.Items)) :: []) :: [] : List AObj)) (fun n0 ⟨n18, i19⟩ => Ya rv N v deep most n0 n18 i19) (1, 0) h (fun i => i) ⟨(rA <| rE rfl <| rE rfl <| rE rfl <| rW <| rA <| rE rfl <| rE rfl <| rX <| rX <| rX <| rX <| rX <| rW <| rA <| rN), (hE rfl <| hN), rfl, rfl, (roE rfl <| roN)⟩ fun n0 ⟨n18, i19⟩ h => ?_
    simp only [Ya] at h
    apply iU h <;> intro h
    ·apply iU h <;> intro h
     ·refine Q0.xR h fun y22 h => ?_
      refine cP h hx1 (.cons q4 p2) fun v24 h => ?_
      show Exists _
      exact ⟨(n0, (IntKind.wrap .i64 (n18 + v24)), (IntKind.wrap .i64 (i19 + 1))), h, Nat.lt_succ_self _, (fun i => i), ⟨(rA <| rE rfl <| rE rfl <| rE rfl <| rW <| rA <| rE rfl <| rE rfl <| rX <| rX <| rX <| rX <| rX <| rW <| rA <| rN), (hE rfl <| hN), rfl, rfl, (roE rfl <| roN)⟩⟩
     ·cases h; exact (.p _)
    ·cases h; exact (.p _)
def Yf : Nat → Q0 → Int → Int → Option (Int)
 | 0 => fun _ _ _ => none
 | N + 1 => V4 (Yf N) N
theorem Q1k {N} {v} {deep} {most} {r} (h : Yf N v deep most = some r) : Zs Tryz.prog G1 66 [.agg (Q0.cells v), .int .i64 deep, .int .i64 most] (.int .i64 r) := by
 induction N generalizing v deep most r with
 | zero => simp [Yf] at h
 | succ N ih => exact Q1i (fun h => ih h) h
def Yl (N : Nat) (v : Q0) : Option (Bool) :=
 (Yf N v 6 40).bind fun v1 =>
 some (Q8 .leq v1 40)
theorem Gd {N} {v} {r} (h : Yl N v = some r) : Zs Tryz.prog G1 20 [.agg (Q0.cells v)] (.bool r) := by
 refine Q6 k20 ?_
 unfold Yl at h
 refine cP h Q1k (.cons q4 p2) fun v1 h => ?_
 cases h; exact (.p _)
def Xm (rz : Q0 → Q0 → Option (Bool)) (N : Nat) (a : Q0) (b : Q0) : Nat → Int → Option (Bool)
 | 0, _ => none
 | n + 1, s22 =>
  cond (Q8 .lss s22 ((Q0.rows a.Items).length : Int))
  ((idx a.Items s22).bind fun y24 =>
  (idx b.Items s22).bind fun y26 =>
  (rz y24 y26).bind fun v28 =>
  cond (!v28)
  (some false)
  (Xm rz N a b n (IntKind.wrap .i64 (s22 + 1))))
  (some true)
def J1 (rz : Q0 → Q0 → Option (Bool)) (N : Nat) (a : Q0) (b : Q0) : Option (Bool) :=
 cond (Q8 .neq a.Kind b.Kind)
 (some false)
 (cond (Q8 .neq a.N' b.N')
 (some false)
 (cond (Q6o .neq a.Text b.Text)
 (some false)
 (cond (Q8 .neq ((Q0.rows a.Items).length : Int) ((Q0.rows b.Items).length : Int))
 (some false)
 (Xm rz N a b N 0))))
theorem Q46 {rz : Q0 → Q0 → Option (Bool)} (hy1 : ∀ {a} {b} {r}, rz a b = some r → Zs Tryz.prog G1 67 [.agg (Q0.cells a), .agg (Q0.cells b)] (.bool r)) {N} {a} {b} {r} (h : J1 rz N a b = some r) : Zs Tryz.prog G1 67 [.agg (Q0.cells a), .agg (Q0.cells b)] (.bool r) := by
 refine Q6 k67 ?_
 unfold J1 at h
 apply iU h <;> intro h
 ·cases h; exact (.p _)
 ·apply iU h <;> intro h
  ·cases h; exact (.p _)
  ·apply iU h <;> intro h
   ·cases h; exact (.p _)
   ·apply iU h <;> intro h
    ·cases h; exact (.p _)
    ·refine lpC (τ := Int) (fun s22 => (.any :: .any :: .ptr 0 0 :: .ptr 1 0 :: a16 (a16 (iI ((Q0.rows a.Items).length : Int) :: iI s22 :: a8 (a4 (a2 (.any :: []))))) : List AV)) (fun _ => (.cells (iI a.Kind :: iW a.N' :: iS a.Text :: .p (.slice 4 (Q0.rows a.Items)) :: []) :: .cells (iI b.Kind :: iW b.N' :: iS b.Text :: .p (.slice 4 (Q0.rows b.Items)) :: []) :: [] : List AObj)) (fun n0 s22 => Xm rz N a b n0 s22) (0) h (fun i => i) ⟨(rW <| rE rfl <| rE rfl <| rX <| rX <| rX <| rX <| rE rfl <| rE rfl <| rX <| rV <| rW <| rA <| rN), (hE rfl <| hE rfl <| hN), rfl, rfl, (roE rfl <| roE rfl <| roN)⟩ fun n0 s22 h => ?_
     simp only [Xm] at h
     apply iU h <;> intro h
     ·refine Qk ?_
      refine Q0.xR h fun y24 h => ?_
      refine Q0.xR h fun y26 h => ?_
      refine cD h hy1 (.cons q4 (.cons q4 .nil)) fun v28 h => ?_
      apply iU h <;> intro h
      ·cases h; exact (.p _)
      ·show Exists _
       exact ⟨(n0, (IntKind.wrap .i64 (s22 + 1))), h, Nat.lt_succ_self _, (fun i => i), ⟨(rW <| rE rfl <| rE rfl <| rX <| rX <| rX <| rX <| rE rfl <| rE rfl <| rX <| rV <| rW <| rA <| rN), (hE rfl <| hE rfl <| hN), rfl, rfl, (roE rfl <| roE rfl <| roN)⟩⟩
     ·cases h; exact (.p _)
def Wc : Nat → Q0 → Q0 → Option (Bool)
 | 0 => fun _ _ => none
 | N + 1 => J1 (Wc N) N
theorem Q4h {N} {a} {b} {r} (h : Wc N a b = some r) : Zs Tryz.prog G1 67 [.agg (Q0.cells a), .agg (Q0.cells b)] (.bool r) := by
 induction N generalizing a b r with
 | zero => simp [Wc] at h
 | succ N ih => exact Q46 (fun h => ih h) h
def X1 (N : Nat) (w : Zl) : Option ((Unit) × Zl) :=
 (Xs N (IntKind.wrap .u64 0) 4).bind fun v1 =>
 cond (!(Nat.beq v1.length 0)) (cond (Nat.ble ((w.buffer.b.length + v1.length + 4096) * 1) 17592186044416) ((Xs N (IntKind.wrap .u64 (IntKind.wrap .i64 (2 + (IntKind.wrap .i64 (((w.f.Ext.length : Int) : Int).tdiv 4))))) 1).bind fun v5 =>
 cond (!(Nat.beq v5.length 0)) (cond (Nat.ble (((w.buffer.b.length + v1.length) + v5.length + 4096) * 1) 17592186044416) ((Xs N (IntKind.wrap .u64 w.f.Type') 1).bind fun v9 =>
 cond (!(Nat.beq v9.length 0)) (cond (Nat.ble ((((w.buffer.b.length + v1.length) + v5.length) + v9.length + 4096) * 1) 17592186044416) ((Xs N (IntKind.wrap .u64 w.f.Channel) 2).bind fun v13 =>
 cond (!(Nat.beq v13.length 0)) (cond (Nat.ble (((((w.buffer.b.length + v1.length) + v5.length) + v9.length) + v13.length + 4096) * 1) 17592186044416) (cond (Nat.beq w.f.Ext.length 0)
 (some ((), (⟨(⟨((((w.buffer.b ++ (v1.map fun b => (b.toNat : Int))) ++ (v5.map fun b => (b.toNat : Int))) ++ (v9.map fun b => (b.toNat : Int))) ++ (v13.map fun b => (b.toNat : Int)))⟩ : Wg), w.f⟩ : Zl)))
 (cond (Nat.ble ((((((w.buffer.b.length + v1.length) + v5.length) + v9.length) + v13.length) + w.f.Ext.length + 4096) * 1) 17592186044416) (some ((), (⟨(⟨(((((w.buffer.b ++ (v1.map fun b => (b.toNat : Int))) ++ (v5.map fun b => (b.toNat : Int))) ++ (v9.map fun b => (b.toNat : Int))) ++ (v13.map fun b => (b.toNat : Int))) ++ (w.f.Ext.map fun b => (b.toNat : Int)))⟩ : Wg), w.f⟩ : Zl))) none)) none) none) none) none) none) none) none) none
theorem Q09 {N} {w} {r} (h : X1 N w = some r) : GC Tryz.prog G1 69 (.ptr 0 0 :: []) (.cells (.slice 1 1 0 w.buffer.b.length :: .p (.int .i64 w.f.Type') :: .p (.int .i64 w.f.Channel) :: .p (.str w.f.Ext) :: .p (.slice 4 (Q0.rows w.f.Values)) :: []) :: .cells (Yk (cI .u8) w.buffer.b) :: []) (.tuple []) (.cells (.slice 1 2 0 r.2.buffer.b.length :: .p (.int .i64 r.2.f.Type') :: .p (.int .i64 r.2.f.Channel) :: .p (.str r.2.f.Ext) :: .p (.slice 4 (Q0.rows r.2.f.Values)) :: []) :: .dead :: .cells (Yk (cI .u8) r.2.buffer.b) :: []) := by
 refine Q0q k69 (Nat.le_of_ble_eq_true rfl) ?_
 unfold X1 at h
 refine V3 Qrx ?_
 refine cP h W3 p2 fun v1 h => ?_
 refine V3 k70 ?_
 refine Q62 (b := v1) ?_
 obtain ⟨hk3, h⟩ := Q2l h
 refine ifF (Qne hk3) ?_
 obtain ⟨hk4, h⟩ := Q2l h
 refine Q1d (Xv (c := (cI .u8)) (e := 1) (l := w.buffer.b) (fun _ => rfl) (by simp) hk4) ?_
 refine Vd (c := (cI .u8)) (l := w.buffer.b) (v1.map fun b => (b.toNat : Int)) rfl ?_
 refine Un 11 rfl rfl ?_
 refine V3 Qrx ?_
 refine cP h W3 p2 fun v5 h => ?_
 refine V3 k70 ?_
 refine Q62 (b := v5) ?_
 obtain ⟨hk7, h⟩ := Q2l h
 refine ifF (Qne hk7) ?_
 obtain ⟨hk8, h⟩ := Q2l h
 refine Q1d (Xv (c := (cI .u8)) (e := 1) (l := (w.buffer.b ++ (v1.map fun b => (b.toNat : Int)))) (fun _ => rfl) (by simp) hk8) ?_
 refine Vd (c := (cI .u8)) (l := (w.buffer.b ++ (v1.map fun b => (b.toNat : Int)))) (v5.map fun b => (b.toNat : Int)) rfl ?_
 refine Un 8 rfl rfl ?_
 refine V3 Qrx ?_
 refine cP h W3 p2 fun v9 h => ?_
 refine V3 k70 ?_
 refine Q62 (b := v9) ?_
 obtain ⟨hk11, h⟩ := Q2l h
 refine ifF (Qne hk11) ?_
 obtain ⟨hk12, h⟩ := Q2l h
 refine Q1d (Xv (c := (cI .u8)) (e := 1) (l := ((w.buffer.b ++ (v1.map fun b => (b.toNat : Int))) ++ (v5.map fun b => (b.toNat : Int)))) (fun _ => rfl) (by simp <;> omega) hk12) ?_
 refine Vd (c := (cI .u8)) (l := ((w.buffer.b ++ (v1.map fun b => (b.toNat : Int))) ++ (v5.map fun b => (b.toNat : Int)))) (v9.map fun b => (b.toNat : Int)) rfl ?_
 refine Un 8 rfl rfl ?_
 refine V3 Qrx ?_
 refine cP h W3 p2 fun v13 h => ?_
 refine V3 k70 ?_
 refine Q62 (b := v13) ?_
 obtain ⟨hk15, h⟩ := Q2l h
 refine ifF (Qne hk15) ?_
 obtain ⟨hk16, h⟩ := Q2l h
 refine Q1d (Xv (c := (cI .u8)) (e := 1) (l := (((w.buffer.b ++ (v1.map fun b => (b.toNat : Int))) ++ (v5.map fun b => (b.toNat : Int))) ++ (v9.map fun b => (b.toNat : Int)))) (fun _ => rfl) (by simp <;> omega) hk16) ?_
 refine Vd (c := (cI .u8)) (l := (((w.buffer.b ++ (v1.map fun b => (b.toNat : Int))) ++ (v5.map fun b => (b.toNat : Int))) ++ (v9.map fun b => (b.toNat : Int)))) (v13.map fun b => (b.toNat : Int)) rfl ?_
 refine Un 8 rfl rfl ?_
 refine V3 k70 ?_
 refine Q62 (b := w.f.Ext) ?_
 apply iU h <;> intro h
 ·obtain rfl := Qd h
  show Exists _
  exact ⟨(rho [0, 1, 5]), ⟨(rE rfl <| rN), (hC rfl (rL (by simp <;> omega) rfl <| rE rfl <| rE rfl <| rE rfl <| rE rfl <| rN) <| hD <| hO rfl <| hN), rfl, rfl, (roE rfl <| roE rfl <| roE (Qa _ _ _) <| roN)⟩⟩
 ·obtain ⟨hk18, h⟩ := Q2l h
  refine Q1d (Xv (c := (cI .u8)) (e := 1) (l := ((((w.buffer.b ++ (v1.map fun b => (b.toNat : Int))) ++ (v5.map fun b => (b.toNat : Int))) ++ (v9.map fun b => (b.toNat : Int))) ++ (v13.map fun b => (b.toNat : Int)))) (fun _ => rfl) (by simp <;> omega) hk18) ?_
  refine Vd (c := (cI .u8)) (l := ((((w.buffer.b ++ (v1.map fun b => (b.toNat : Int))) ++ (v5.map fun b => (b.toNat : Int))) ++ (v9.map fun b => (b.toNat : Int))) ++ (v13.map fun b => (b.toNat : Int)))) (w.f.Ext.map fun b => (b.toNat : Int)) rfl ?_
  obtain rfl := Qd h
  show Exists _
  exact ⟨(rho [0, 1, 6]), ⟨(rE rfl <| rN), (hC rfl (rL (by simp <;> omega) rfl <| rE rfl <| rE rfl <| rE rfl <| rE rfl <| rN) <| hD <| hO rfl <| hN), rfl, rfl, (roE rfl <| roE rfl <| roE (Qa _ _ _) <| roN)⟩⟩
def X0 (N : Nat) (w : Zl) : Option ((Unit) × Zl) :=
 (Xs N (IntKind.wrap .u64 (w.buffer.b.length : Int)) 4).bind fun v1 =>
 cond (Nat.ble 1 w.buffer.b.length) (some ((), (⟨(⟨(((v1.map fun b => (b.toNat : Int)).take w.buffer.b.length) ++ (w.buffer.b : List Int).drop ((v1.map fun b => (b.toNat : Int)).take w.buffer.b.length).length)⟩ : Wg), w.f⟩ : Zl))) none
theorem Q05 {N} {w} {r} (h : X0 N w = some r) : GC Tryz.prog G1 71 (.ptr 0 0 :: []) (.cells (.slice 1 1 0 w.buffer.b.length :: .p (.int .i64 w.f.Type') :: .p (.int .i64 w.f.Channel) :: .p (.str w.f.Ext) :: .p (.slice 4 (Q0.rows w.f.Values)) :: []) :: .cells (Yk (cI .u8) w.buffer.b) :: []) (.tuple []) (.cells (.slice 1 2 0 r.2.buffer.b.length :: .p (.int .i64 r.2.f.Type') :: .p (.int .i64 r.2.f.Channel) :: .p (.str r.2.f.Ext) :: .p (.slice 4 (Q0.rows r.2.f.Values)) :: []) :: .dead :: .cells (Yk (cI .u8) r.2.buffer.b) :: []) := by
 refine Q0q k71 (Nat.le_of_ble_eq_true rfl) ?_
 unfold X0 at h
 refine Qk ?_
 refine cD h W3 p2 fun v1 h => ?_
 refine Q62 (b := v1) ?_
 obtain ⟨hk3, h⟩ := Q2l h
 refine Q1d (Qlq (c := (cI .u8)) (l := (w.buffer.b : List Int)) (fun _ => rfl) (by simp) hk3) ?_
 refine Qq7 (c := (cI .u8)) (l := (w.buffer.b : List Int)) (new := (v1.map fun b => (b.toNat : Int))) (fun _ => rfl) ?_
 obtain rfl := Qd h
 show Exists _
 exact ⟨(rho [0, 1, 1]), ⟨(rE rfl <| rN), (hC rfl (rL (by simp <;> omega) rfl <| rE rfl <| rE rfl <| rE rfl <| rE rfl <| rN) <| hD <| hO rfl <| hN), rfl, rfl, (roE rfl <| roE rfl <| roE (Qa _ _ _) <| roN)⟩⟩
def Vs (N : Nat) (v : Q0) (most : Int) : Option (Int × Int) :=
 (Xx N v most).bind fun v1 =>
 cond (Q8 .neq v1 0)
 (some (0, v1))
 ((Yb N v).bind fun v4 =>
 (X6 N v4).bind fun v6 =>
 (Y3 N v6).bind fun v8 =>
 (Zi N v6 v8).bind fun v10 =>
 some ((IntKind.wrap .i64 (1 + v10)), 0))
theorem Q55 {N} {v} {most} {r} (h : Vs N v most = some r) : Zs Tryz.prog G1 33 [.agg (Q0.cells v), .int .i64 most] (.tuple [.int .i64 r.1, .int .i64 r.2]) := by
 refine Q6 k33 ?_
 unfold Vs at h
 refine cP h Uj (.cons q4 p1) fun v1 h => ?_
 apply iU h <;> intro h
 ·obtain rfl := Qd h; exact u2
 ·refine cP h Ux (.cons q4 .nil) fun v4 h => ?_
  refine cP h Jt p1 fun v6 h => ?_
  refine Qk ?_
  refine cD h V9 (.cons (Frz.agg' (.cons (.p _) (.cons (.p _) p5))) .nil) fun v8 h => ?_
  refine cD h Uq (.cons (Frz.agg' (.cons (.p _) (.cons (.p _) p5))) p1) fun v10 h => ?_
  obtain rfl := Qd h; exact u2
def Wh (_N : Nat) (l : Z7) : Option (Bool) :=
 cond (Q8 .geq l.MaxPacket 16)
 (cond (Q8 .leq l.MaxPacket 1048576)
 (cond (Q8 .geq l.MaxDepth 0)
 (some (Q8 .leq l.MaxDepth 32))
 (some false))
 (some false))
 (some false)
theorem Gk {N} {l} {r} (h : Wh N l = some r) : Zs Tryz.prog G1 77 [.agg (Z7.cells l)] (.bool r) := by
 refine Q6 k77 ?_
 unfold Wh at h
 apply iU h <;> intro h
 ·apply iU h <;> intro h
  ·apply iU h <;> intro h
   ·cases h; exact (.p _)
   ·cases h; exact (.p _)
  ·cases h; exact (.p _)
 ·cases h; exact (.p _)
def Wi (_N : Nat) (n_0 : Int) : Option (Bool) :=
 cond (Q8 .eql n_0 0)
 (some true)
 (some (Q8 .eql n_0 1))
theorem G9 {N} {n_0} {r} (h : Wi N n_0 = some r) : Zs Tryz.prog G1 79 [.int .i64 n_0] (.bool r) := by
 refine Q6 k79 ?_
 unfold Wi at h
 apply iU h <;> intro h
 ·cases h; exact (.p _)
 ·cases h; exact (.p _)
def X2 (N : Nat) (f : Qj) (l : Z7) : Nat → Int → Int → Option (Int)
 | 0, _, _ => none
 | n + 1, all44, s45 =>
  cond (Q8 .lss s45 ((Q0.rows f.Values).length : Int))
  ((idx f.Values s45).bind fun y47 =>
  (Vs N y47 l.MaxDepth).bind fun v49 =>
  X2 N f l n (IntKind.wrap .i64 (all44 + v49.1)) (IntKind.wrap .i64 (s45 + 1)))
  (cond (Q8 .gtr all44 l.MaxPacket)
  (some 4)
  (some 0))
def X4 (N : Nat) (f : Qj) (l : Z7) : Nat → Int → Option (Int)
 | 0, _ => none
 | n + 1, s25 =>
  cond (Q8 .lss s25 ((Q0.rows f.Values).length : Int))
  ((idx f.Values s25).bind fun y27 =>
  (Xx N y27 l.MaxDepth).bind fun v29 =>
  cond (Q8 .neq v29 0)
  (some v29)
  (X4 N f l n (IntKind.wrap .i64 (s25 + 1))))
  (X2 N f l N (IntKind.wrap .i64 (8 + (f.Ext.length : Int))) 0)
def Wl (N : Nat) (f : Qj) (l : Z7) : Option (Int) :=
 (Wh N l).bind fun v1 =>
 cond (!v1)
 (some 2)
 ((Wi N f.Type').bind fun v4 =>
 cond (!v4)
 (some 8)
 (cond (Q8 .lss f.Channel 0)
 (some 2)
 (cond (Q8 .gtr f.Channel 65535)
 (some 2)
 (cond (Q8 .gtr (f.Ext.length : Int) 1012)
 (some 2)
 (cond (Q8 .neq (((f.Ext.length : Int) : Int).tmod 4) 0)
 (some 2)
 (cond (Q8 .gtr ((Q0.rows f.Values).length : Int) 1000)
 (some 4)
 (X4 N f l N 0)))))))
theorem G4 {N} {f} {l} {r} (h : Wl N f l = some r) : Zs Tryz.prog G1 42 [.agg (Qj.cells f), .agg (Z7.cells l)] (.int .i64 r) := by
 refine Q6 k42 ?_
 unfold Wl at h
 refine cP h Gk (.cons q2 .nil) fun v1 h => ?_
 apply iU h <;> intro h
 ·cases h; exact (.p _)
 ·refine cP h G9 p1 fun v4 h => ?_
  apply iU h <;> intro h
  ·cases h; exact (.p _)
  ·apply iU h <;> intro h
   ·cases h; exact (.p _)
   ·apply iU h <;> intro h
    ·cases h; exact (.p _)
    ·apply iU h <;> intro h
     ·cases h; exact (.p _)
     ·apply iU h <;> intro h
      ·cases h; exact (.p _)
      ·apply iU h <;> intro h
       ·cases h; exact (.p _)
       ·refine lpC (τ := Int) (fun s25 => (.any :: .any :: .ptr 0 0 :: .ptr 1 0 :: a16 (a16 (a8 (a2 (.p (.slice 4 (Q0.rows f.Values)) :: iI ((Q0.rows f.Values).length : Int) :: iI s25 :: a16 (a16 (a4 (.any :: []))))))) : List AV)) (fun _ => (.cells (iI f.Type' :: iI f.Channel :: iS f.Ext :: .p (.slice 4 (Q0.rows f.Values)) :: []) :: .cells (iI l.MaxPacket :: iI l.MaxDepth :: []) :: [] : List AObj)) (fun n0 s25 => X4 N f l n0 s25) (0) h (fun i => i) ⟨(rW <| rE rfl <| rE rfl <| rX <| rX <| rX <| rX <| rX <| rW <| rE rfl <| rE rfl <| rE rfl <| rX <| rX <| rX <| rX <| rV <| rA <| rN), (hE rfl <| hE rfl <| hN), rfl, rfl, (roE rfl <| roE rfl <| roN)⟩ fun n0 s25 h => ?_
        simp only [X4] at h
        apply iU h <;> intro h
        ·refine Q0.xR h fun y27 h => ?_
         refine cP h Uj (.cons q4 p1) fun v29 h => ?_
         apply iU h <;> intro h
         ·cases h; exact (.p _)
         ·show Exists _
          exact ⟨(n0, (IntKind.wrap .i64 (s25 + 1))), h, Nat.lt_succ_self _, (fun i => i), ⟨(rW <| rE rfl <| rE rfl <| rX <| rX <| rX <| rX <| rX <| rW <| rE rfl <| rE rfl <| rE rfl <| rX <| rX <| rX <| rX <| rV <| rA <| rN), (hE rfl <| hE rfl <| hN), rfl, rfl, (roE rfl <| roE rfl <| roN)⟩⟩
        ·refine lpC (τ := Int × Int) (fun ⟨all44, s45⟩ => (a2 (.any :: .ptr 1 0 :: a4 (iI all44 :: a16 (a16 (a16 (a8 (.p (.slice 4 (Q0.rows f.Values)) :: iI ((Q0.rows f.Values).length : Int) :: iI s45 :: a16 (a2 ([])))))))) : List AV)) (fun ⟨_, _⟩ => (.cells (iI f.Type' :: iI f.Channel :: iS f.Ext :: .p (.slice 4 (Q0.rows f.Values)) :: []) :: .cells (iI l.MaxPacket :: iI l.MaxDepth :: []) :: [] : List AObj)) (fun n1 ⟨all44, s45⟩ => X2 N f l n1 all44 s45) ((IntKind.wrap .i64 (8 + (f.Ext.length : Int))), 0) h (fun i => i) ⟨(rW <| rA <| rE rfl <| rV <| rE rfl <| rX <| rX <| rX <| rX <| rX <| rX <| rX <| rE rfl <| rE rfl <| rE rfl <| rX <| rX <| rW <| rN), (hE rfl <| hE rfl <| hN), rfl, rfl, (roE rfl <| roE rfl <| roN)⟩ fun n1 ⟨all44, s45⟩ h => ?_
         simp only [X2] at h
         apply iU h <;> intro h
         ·refine Q0.xR h fun y47 h => ?_
          refine cP h Q55 (.cons q4 p1) fun v49 h => ?_
          show Exists _
          exact ⟨(n1, (IntKind.wrap .i64 (all44 + v49.1)), (IntKind.wrap .i64 (s45 + 1))), h, Nat.lt_succ_self _, (fun i => i), ⟨(rW <| rA <| rE rfl <| rV <| rE rfl <| rX <| rX <| rX <| rX <| rX <| rX <| rX <| rE rfl <| rE rfl <| rE rfl <| rX <| rX <| rW <| rN), (hE rfl <| hE rfl <| hN), rfl, rfl, (roE rfl <| roE rfl <| roN)⟩⟩
         ·apply iU h <;> intro h
          ·cases h; exact (.p _)
          ·cases h; exact (.p _)
def Ye (N : Nat) (f : Qj) (l : Z7) (v4 : (Unit) × Zl) : Nat → Int → (List Int) → Option ((List UInt8) × Int)
 | 0, _, _ => none
 | n + 1, s22, l23 =>
  cond (Q8 .lss s22 ((Q0.rows f.Values).length : Int))
  ((idx f.Values s22).bind fun y25 =>
  (Vc N y25 l.MaxDepth).bind fun v27 =>
  cond (Nat.beq v27.1.length 0)
  (Ye N f l v4 n (IntKind.wrap .i64 (s22 + 1)) l23)
  (cond (Nat.ble ((l23.length + v27.1.length + 4096) * 1) 17592186044416) (Ye N f l v4 n (IntKind.wrap .i64 (s22 + 1)) (l23 ++ (v27.1.map fun b => (b.toNat : Int)))) none))
  ((X0 N (⟨(⟨l23⟩ : Wg), v4.2.f⟩ : Zl)).bind fun v31 =>
  some ((v31.2.buffer.b.map fun n => UInt8.ofNat n.toNat), 0))
def Wj (N : Nat) (f : Qj) (l : Z7) : Option ((List UInt8) × Int) :=
 (Wl N f l).bind fun v1 =>
 cond (Q8 .neq v1 0)
 (some ([], v1))
 ((X1 N (⟨(⟨[]⟩ : Wg), f⟩ : Zl)).bind fun v4 =>
 Ye N f l v4 N 0 v4.2.buffer.b)
theorem Gm {N} {f} {l} {r} (h : Wj N f l = some r) : Zs Tryz.prog G1 26 [.agg (Qj.cells f), .agg (Z7.cells l)] (.tuple [.str r.1, .int .i64 r.2]) := by
 refine Q6 k26 ?_
 unfold Wj at h
 refine cP h G4 (.cons q4 (.cons q2 .nil)) fun v1 h => ?_
 apply iU h <;> intro h
 ·obtain rfl := Qd h; exact u2
 ·refine cG h Q09 fun v4 h => ?_
  refine ⟨rho [2, 4], (.cells (iI f.Type' :: iI f.Channel :: iS f.Ext :: .p (.slice 4 (Q0.rows f.Values)) :: []) :: .cells (iI l.MaxPacket :: iI l.MaxDepth :: []) :: .cells (.slice 1 3 0 v4.2.buffer.b.length :: iI v4.2.f.Type' :: iI v4.2.f.Channel :: iS v4.2.f.Ext :: .p (.slice 4 (Q0.rows v4.2.f.Values)) :: []) :: .cells (Yk (cI .u8) v4.2.buffer.b) :: []), .tuple [], ⟨(rE rfl <| rN), (hC rfl (rS <| rE rfl <| rE rfl <| rE rfl <| rE rfl <| rN) <| hV lb <| hN), rfl, rfl, (roE rfl <| roE (Qa _ _ _) <| roN), rfl, (fK rfl rfl <| fK rfl rfl <| fR 0 rfl rfl rfl rfl <| fO 2 rfl rfl rfl <| fN), rfl⟩, ?_⟩
  refine lpC (τ := Int × (List Int)) (fun ⟨s22, _⟩ => (a2 (.any :: .ptr 1 0 :: a2 (.any :: .ptr 2 0 :: a8 (a4 (a2 (.p (.slice 4 (Q0.rows f.Values)) :: iI ((Q0.rows f.Values).length : Int) :: iI s22 :: a16 (a2 (.any :: []))))))) : List AV)) (fun ⟨_, l23⟩ => (.cells (iI f.Type' :: iI f.Channel :: iS f.Ext :: .p (.slice 4 (Q0.rows f.Values)) :: []) :: .cells (iI l.MaxPacket :: iI l.MaxDepth :: []) :: .cells (.slice 1 4 0 l23.length :: iI v4.2.f.Type' :: iI v4.2.f.Channel :: iS v4.2.f.Ext :: .p (.slice 4 (Q0.rows v4.2.f.Values)) :: []) :: .dead :: .cells (Yk (cI .u8) l23) :: [] : List AObj)) (fun n0 ⟨s22, l23⟩ => Ye N f l v4 n0 s22 l23) (0, v4.2.buffer.b) h (rho [0, 1, 2, 3, 3]) ⟨(rW <| rA <| rE rfl <| rW <| rA <| rE rfl <| rX <| rV <| rW <| rE rfl <| rE rfl <| rE rfl <| rX <| rX <| rW <| rA <| rN), (hE rfl <| hE rfl <| hE rfl <| hD <| hO rfl <| hN), rfl, rfl, (roE rfl <| roE rfl <| roE rfl <| roE rfl <| roE (Qa _ _ _) <| roN)⟩ fun n0 ⟨s22, l23⟩ h => ?_
  simp only [Ye] at h
  apply iU h <;> intro h
  ·refine Q0.xR h fun y25 h => ?_
   refine cP h Q3g (.cons q4 p1) fun v27 h => ?_
   refine V3 k70 ?_
   refine Q62 (b := v27.1) ?_
   apply iU h <;> intro h
   ·show Exists _
    exact ⟨(n0, (IntKind.wrap .i64 (s22 + 1)), l23), h, Nat.lt_succ_self _, (fun i => i), ⟨(rW <| rA <| rE rfl <| rW <| rA <| rE rfl <| rX <| rV <| rW <| rE rfl <| rE rfl <| rE rfl <| rX <| rX <| rW <| rA <| rN), (hE rfl <| hE rfl <| hE rfl <| hD <| hO rfl <| hN), rfl, rfl, (roE rfl <| roE rfl <| roE rfl <| roE rfl <| roE (Qa _ _ _) <| roN)⟩⟩
   ·obtain ⟨hk30, h⟩ := Q2l h
    refine Q1d (Xv (c := (cI .u8)) (e := 1) (l := l23) (fun _ => rfl) (by simp) hk30) ?_
    refine Vd (c := (cI .u8)) (l := l23) (v27.1.map fun b => (b.toNat : Int)) rfl ?_
    show Exists _
    exact ⟨(n0, (IntKind.wrap .i64 (s22 + 1)), (l23 ++ (v27.1.map fun b => (b.toNat : Int)))), h, Nat.lt_succ_self _, (rho [0, 1, 2, 3, 6]), ⟨(rW <| rA <| rE rfl <| rW <| rA <| rE rfl <| rX <| rV <| rW <| rE rfl <| rE rfl <| rE rfl <| rX <| rX <| rW <| rA <| rN), (hE rfl <| hE rfl <| hC rfl (rL (by simp) rfl <| rE rfl <| rE rfl <| rE rfl <| rE rfl <| rN) <| hD <| hO rfl <| hN), rfl, rfl, (roE rfl <| roE rfl <| roE rfl <| roE rfl <| roE (Qa _ _ _) <| roN)⟩⟩
  ·refine cG h Q05 fun v31 h => ?_
   refine ⟨rho [2, 4], (.cells (iI f.Type' :: iI f.Channel :: iS f.Ext :: .p (.slice 4 (Q0.rows f.Values)) :: []) :: .cells (iI l.MaxPacket :: iI l.MaxDepth :: []) :: .cells (.slice 1 5 0 v31.2.buffer.b.length :: iI v31.2.f.Type' :: iI v31.2.f.Channel :: iS v31.2.f.Ext :: .p (.slice 4 (Q0.rows v31.2.f.Values)) :: []) :: .dead :: .dead :: .cells (Yk (cI .u8) v31.2.buffer.b) :: []), .tuple [], ⟨(rE rfl <| rN), (hE rfl <| hO rfl <| hN), rfl, rfl, (roE rfl <| roE (Qa _ _ _) <| roN), rfl, (fK rfl rfl <| fK rfl rfl <| fR 0 rfl rfl rfl rfl <| fD <| fD <| fO 2 rfl rfl rfl <| fN), rfl⟩, ?_⟩
   refine Qky (l := v31.2.buffer.b) (by simp) ?_
   obtain rfl := Qd h; exact u2
def U3 (_N : Nat) : Option (Z7) :=
 some (⟨4096, 6⟩ : Z7)
theorem Q0l {N} {r} (h : U3 N = some r) : Zs Tryz.prog G1 36 [] (.agg (Z7.cells r)) := by
 refine Q6 k36 ?_
 unfold U3 at h
 obtain rfl := Qd h; exact q2
def Xc (N : Nat) : Option (Bool) :=
 (U3 N).bind fun v1 =>
 (Wj N (⟨0, 1, [], []⟩ : Qj) v1).bind fun v3 =>
 cond (Q8 .eql v3.2 0)
 (some (Q6o .eql v3.1 [0, 0, 0, 8, 2, 0, 0, 1]))
 (some false)
theorem Q0c {N} {r} (h : Xc N = some r) : Zs Tryz.prog G1 24 [] (.bool r) := by
 refine Q6 k24 ?_
 unfold Xc at h
 refine cP h Q0l p0 fun v1 h => ?_
 refine cP h Gm (.cons q4n p1) fun v3 h => ?_
 apply iU h <;> intro h
 ·cases h; exact (.p _)
 ·cases h; exact (.p _)
def Zj (N : Nat) (f : Qj) : Nat → Int → Option (Bool)
 | 0, _ => none
 | n + 1, i16 =>
  cond (Q8 .lss i16 ((Q0.rows f.Values).length : Int))
  ((idx f.Values i16).bind fun y18 =>
  (Yl N y18).bind fun v20 =>
  cond (!v20)
  (some false)
  (Zj N f n (IntKind.wrap .i64 (i16 + 1))))
  (some true)
def Ym (N : Nat) (f : Qj) : Option (Bool) :=
 cond (Q8 .gtr ((Q0.rows f.Values).length : Int) 6)
 (some false)
 (cond (Q8 .gtr (f.Ext.length : Int) 1100)
 (some false)
 (Zj N f N 0))
theorem Gn {N} {f} {r} (h : Ym N f = some r) : Zs Tryz.prog G1 25 [.agg (Qj.cells f)] (.bool r) := by
 refine Q6 k25 ?_
 unfold Ym at h
 apply iU h <;> intro h
 ·cases h; exact (.p _)
 ·apply iU h <;> intro h
  ·cases h; exact (.p _)
  ·refine lpC (τ := Int) (fun i16 => (.any :: .ptr 0 0 :: .any :: iI i16 :: a16 (a8 ([])) : List AV)) (fun _ => (.cells (iI f.Type' :: iI f.Channel :: iS f.Ext :: .p (.slice 4 (Q0.rows f.Values)) :: []) :: [] : List AObj)) (fun n0 i16 => Zj N f n0 i16) (0) h (fun i => i) ⟨(rA <| rE rfl <| rA <| rE rfl <| rX <| rX <| rX <| rN), (hE rfl <| hN), rfl, rfl, (roE rfl <| roN)⟩ fun n0 i16 h => ?_
   simp only [Zj] at h
   apply iU h <;> intro h
   ·refine Q0.xR h fun y18 h => ?_
    refine cP h Gd (.cons q4 .nil) fun v20 h => ?_
    apply iU h <;> intro h
    ·cases h; exact (.p _)
    ·show Exists _
     exact ⟨(n0, (IntKind.wrap .i64 (i16 + 1))), h, Nat.lt_succ_self _, (fun i => i), ⟨(rA <| rE rfl <| rA <| rE rfl <| rX <| rX <| rX <| rN), (hE rfl <| hN), rfl, rfl, (roE rfl <| roN)⟩⟩
   ·cases h; exact (.p _)
end
end
end Go.Av
