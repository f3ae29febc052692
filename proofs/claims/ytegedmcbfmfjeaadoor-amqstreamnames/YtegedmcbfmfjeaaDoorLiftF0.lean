/- The law. Part of a proof of a given statement: for every input the law returns true and the arguments read as before; no condition beyond the given row. -/
import Derived.Test.YtegedmcbfmfjeaaDoorLiftTy
import Derived.Test.YtegedmcbfmfjeaaDoorChks
import Derived.Test.YtegedmcbfmfjeaaDoorSeat1
import Derived.Test.YtegedmcbfmfjeaaDoorLiftG
import Derived.Test.YtegedmcbfmfjeaaDoorMans
namespace Go.Av
noncomputable section
open Go.Proofs
set_option maxRecDepth 100000
set_option maxHeartbeats 4000000
attribute [local irreducible] Y9 Zl Q0t Q0p Q90 Qb0 Q2j
section
def Y8 (_N : Nat) (most : Int) : Option (Bool) :=
 cond (Qc .geq most 0)
 (some (Qc .leq most 32))
 (some false)
theorem Xs {N} {most} {r} (h : Y8 N most = some r) : Yr Tryd.prog G1 34 [.int .i64 most] (.bool r) := by
 refine Qe k34 ?_
 unfold Y8 at h
 rw [cX] at h
 apply iU h <;> intro h
 ·cases h; exact (.p _)
 ·cases h; exact (.p _)
def Qt (_N : Nat) (c : Q1) : Option ((List UInt8) × Q1) :=
 cond (decide (0 ≤ c.at')) (cond (Nat.ble c.at'.toNat c.text.length && Nat.ble c.text.length c.text.length) (some (((c.text.take c.text.length).drop c.at'.toNat), c)) none) none
theorem Qx {N} {c} {r} (h : Qt N c = some r) : Q5y Tryd.prog G1 89 (Q1.cells c) [] (.str r.1) (Q1.cells r.2) := by
 refine X0 k89 ?_
 unfold Qt at h
 refine Q7 ?_
 refine kU h fun h => ?_
 refine kU h fun h => ?_
 obtain rfl := Qb h; exact ⟨_, _, rfl, p3, (.p _)⟩
def X8 (_N : Nat) (c : Q1) : Option ((Bool) × Q1) :=
 some ((Qc .eql c.err 0), c)
theorem Vx {N} {c} {r} (h : X8 N c = some r) : Q5y Tryd.prog G1 90 (Q1.cells c) [] (.bool r.1) (Q1.cells r.2) := by
 refine X0 k90 ?_
 unfold X8 at h
 rw [cX] at h
 obtain rfl := Qb h; exact ⟨_, _, rfl, p3, (.p _)⟩
def Xo (_N : Nat) (c : Q1) (n_1 : Int) : Option ((Bool) × Q1) :=
 cond (Qc .geq n_1 0)
 (some ((Qc .leq n_1 (IntKind.wrap .i64 ((c.text.length : Int) - c.at'))), c))
 (some (false, c))
theorem Uv {N} {c} {n_1} {r} (h : Xo N c n_1 = some r) : Q5y Tryd.prog G1 91 (Q1.cells c) [.int .i64 n_1] (.bool r.1) (Q1.cells r.2) := by
 refine X0 k91 ?_
 unfold Xo at h
 rw [cX] at h
 refine Q7 ?_
 apply iU h <;> intro h
 ·obtain rfl := Qb h; exact ⟨_, _, rfl, p3, (.p _)⟩
 ·obtain rfl := Qb h; exact ⟨_, _, rfl, p3, (.p _)⟩
def Qh (N : Nat) (c : Q1) (n_1 : Int) : Option ((List UInt8) × Q1) :=
 (X8 N c).bind fun v1 =>
 cond (!v1.1)
 (some ([], v1.2))
 ((Xo N v1.2 n_1).bind fun v4 =>
 cond (!v4.1)
 (some ([], (⟨v4.2.text, v4.2.at', 3⟩ : Q1)))
 (cond (decide (0 ≤ v4.2.at')) (cond (decide (0 ≤ (IntKind.wrap .i64 (v4.2.at' + n_1)))) (cond (Nat.ble v4.2.at'.toNat ((IntKind.wrap .i64 (v4.2.at' + n_1)).toNat) && Nat.ble ((IntKind.wrap .i64 (v4.2.at' + n_1)).toNat) v4.2.text.length) (some (((v4.2.text.take ((IntKind.wrap .i64 (v4.2.at' + n_1)).toNat)).drop v4.2.at'.toNat), (⟨v4.2.text, (IntKind.wrap .i64 (v4.2.at' + n_1)), v4.2.err⟩ : Q1))) none) none) none))
theorem Qg {N} {c} {n_1} {r} (h : Qh N c n_1 = some r) : Q5y Tryd.prog G1 70 (Q1.cells c) [.int .i64 n_1] (.str r.1) (Q1.cells r.2) := by
 refine X0 k70 ?_
 unfold Qh at h
 refine cM h Vx rfl p0 fun v1 h => ?_
 apply iU h <;> intro h
 ·obtain rfl := Qb h; exact ⟨_, _, rfl, p3, (.p _)⟩
 ·refine cM h Uv rfl p1 fun v4 h => ?_
  apply iU h <;> intro h
  ·obtain rfl := Qb h; exact ⟨_, _, rfl, p3, (.p _)⟩
  ·refine Q7 ?_
   refine kU h fun h => ?_
   refine kU h fun h => ?_
   refine kU h fun h => ?_
   obtain rfl := Qb h; exact ⟨_, _, rfl, p3, (.p _)⟩
def Qz (_N : Nat) (c : Q1) : Option ((Int) × Q1) :=
 some (c.at', c)
theorem Qy {N} {c} {r} (h : Qz N c = some r) : Q5y Tryd.prog G1 74 (Q1.cells c) [] (.int .i64 r.1) (Q1.cells r.2) := by
 refine X0 k74 ?_
 unfold Qz at h
 obtain rfl := Qb h; exact ⟨_, _, rfl, p3, (.p _)⟩
def W2 (N : Nat) (s_0 : List UInt8) : Nat → Int → Int → Option (Int)
 | 0, _, _ => none
 | n + 1, n12, s13 =>
  cond (Qc .lss s13 (((s_0.take s_0.length).drop ((IntKind.wrap .i64 ((s_0.length : Int) - 8)).toNat)).length : Int))
  ((idx ((s_0.take s_0.length).drop ((IntKind.wrap .i64 ((s_0.length : Int) - 8)).toNat)) s13).bind fun b15 =>
  W2 N s_0 n (orI .u64 (Q43 .u64 n12 8) (IntKind.wrap .u64 (b15.toNat : Int))) (IntKind.wrap .i64 (s13 + 1)))
  (some n12)
def W5 (N : Nat) (s_0 : List UInt8) : Nat → Int → Int → Option (Int)
 | 0, _, _ => none
 | n + 1, n25, s26 =>
  cond (Qc .lss s26 (s_0.length : Int))
  ((idx s_0 s26).bind fun b28 =>
  W5 N s_0 n (orI .u64 (Q43 .u64 n25 8) (IntKind.wrap .u64 (b28.toNat : Int))) (IntKind.wrap .i64 (s26 + 1)))
  (some n25)
def V0 (N : Nat) (s_0 : List UInt8) : Option (Int) :=
 cond (Qc .gtr (s_0.length : Int) 8)
 (cond (decide (0 ≤ (IntKind.wrap .i64 ((s_0.length : Int) - 8)))) (cond (Nat.ble (IntKind.wrap .i64 ((s_0.length : Int) - 8)).toNat s_0.length && Nat.ble s_0.length s_0.length) (W2 N s_0 N 0 0) none) none)
 (W5 N s_0 N 0 0)
theorem Vg {N} {s_0} {r} (h : V0 N s_0 = some r) : Yr Tryd.prog G1 51 [.str s_0] (.int .u64 r) := by
 refine Qe k51 ?_
 unfold V0 at h
 rw [cX] at h
 apply iU h <;> intro h
 ·refine kU h fun h => ?_
  refine kU h fun h => ?_
  refine lpC (τ := Int × Int) (fun ⟨n12, s13⟩ => (.p (.str ((s_0.take s_0.length).drop ((IntKind.wrap .i64 ((s_0.length : Int) - 8)).toNat))) :: .any :: .any :: iW n12 :: a8 (a2 (.p (.int .i64 (((s_0.take s_0.length).drop ((IntKind.wrap .i64 ((s_0.length : Int) - 8)).toNat)).length : Int)) :: iI s13 :: a8 (a2 (.any :: [])))) : List AV)) (fun ⟨_, _⟩ => ([] : List AObj)) (fun n0 ⟨n12, s13⟩ => W2 N s_0 n0 n12 s13) (0, 0) h (fun i => i) ⟨(rE rfl <| rW <| rE rfl <| rX <| rW <| rE rfl <| rE rfl <| rX <| rW <| rA <| rN), (hN), rfl, rfl, (roN)⟩ fun n0 ⟨n12, s13⟩ h => ?_
  simp only [W2] at h
  rw [cX] at h
  apply iU h <;> intro h
  ·refine xB h fun b15 h => ?_
   show Exists _
   exact ⟨(n0, (orI .u64 (Q43 .u64 n12 8) (IntKind.wrap .u64 (b15.toNat : Int))), (IntKind.wrap .i64 (s13 + 1))), h, Nat.lt_succ_self _, (fun i => i), ⟨(rE rfl <| rW <| rE rfl <| rX <| rW <| rE rfl <| rE rfl <| rX <| rW <| rA <| rN), (hN), rfl, rfl, (roN)⟩⟩
  ·cases h; exact (.p _)
 ·refine lpC (τ := Int × Int) (fun ⟨n25, s26⟩ => (iS s_0 :: .any :: .any :: iW n25 :: a8 (a2 (iI (s_0.length : Int) :: iI s26 :: a8 (a2 (.any :: [])))) : List AV)) (fun ⟨_, _⟩ => ([] : List AObj)) (fun n1 ⟨n25, s26⟩ => W5 N s_0 n1 n25 s26) (0, 0) h (fun i => i) ⟨(rE rfl <| rW <| rE rfl <| rX <| rW <| rE rfl <| rE rfl <| rX <| rW <| rA <| rN), (hN), rfl, rfl, (roN)⟩ fun n1 ⟨n25, s26⟩ h => ?_
  simp only [W5] at h
  rw [cX] at h
  apply iU h <;> intro h
  ·refine xB h fun b28 h => ?_
   show Exists _
   exact ⟨(n1, (orI .u64 (Q43 .u64 n25 8) (IntKind.wrap .u64 (b28.toNat : Int))), (IntKind.wrap .i64 (s26 + 1))), h, Nat.lt_succ_self _, (fun i => i), ⟨(rE rfl <| rW <| rE rfl <| rX <| rW <| rE rfl <| rE rfl <| rX <| rW <| rA <| rN), (hN), rfl, rfl, (roN)⟩⟩
  ·cases h; exact (.p _)
def Z0 (N : Nat) (c : Q1) (size : Int) : Option ((Int) × Q1) :=
 (Qh N c size).bind fun v1 =>
 (V0 N v1.1).bind fun v3 =>
 some (v3, v1.2)
theorem Z8 {N} {c} {size} {r} (h : Z0 N c size = some r) : Q5y Tryd.prog G1 68 (Q1.cells c) [.int .i64 size] (.int .u64 r.1) (Q1.cells r.2) := by
 refine X0 k68 ?_
 unfold Z0 at h
 refine cM h Qg rfl p1 fun v1 h => ?_
 refine cP h Vg p1 fun v3 h => ?_
 obtain rfl := Qb h; exact ⟨_, _, rfl, p3, (.p _)⟩
def Qu (N : Nat) (c : Q1) : Option ((Int) × Q1) :=
 (Qt N c).bind fun v1 =>
 some ((v1.1.length : Int), v1.2)
theorem Qw {N} {c} {r} (h : Qu N c = some r) : Q5y Tryd.prog G1 69 (Q1.cells c) [] (.int .i64 r.1) (Q1.cells r.2) := by
 refine X0 k69 ?_
 unfold Qu at h
 refine cM h Qx rfl p0 fun v1 h => ?_
 obtain rfl := Qb h; exact ⟨_, _, rfl, p3, (.p _)⟩
def Qq (_N : Nat) (c : Q1) : Option ((Int) × Q1) :=
 some (c.err, c)
theorem Qo {N} {c} {r} (h : Qq N c = some r) : Q5y Tryd.prog G1 72 (Q1.cells c) [] (.int .i64 r.1) (Q1.cells r.2) := by
 refine X0 k72 ?_
 unfold Qq at h
 obtain rfl := Qb h; exact ⟨_, _, rfl, p3, (.p _)⟩
def Y0 (_N : Nat) (v : Q0) : Option (Bool) :=
 cond (Qc .eql v.Kind 11)
 (cond (Qc .eql (Q9r .u64 (Qcf .u64 v.N' 23) 255) 255)
 (some (Qc .neq (Q43 .u64 v.N' 41) 0))
 (some false))
 (cond (Qc .eql v.Kind 12)
 (cond (Qc .eql (Q9r .u64 (Qcf .u64 v.N' 52) 2047) 2047)
 (some (Qc .neq (Q43 .u64 v.N' 12) 0))
 (some false))
 (some false))
theorem Xy {N} {v} {r} (h : Y0 N v = some r) : Yr Tryd.prog G1 107 [.agg (Q0.cells v)] (.bool r) := by
 refine Qe Qgv ?_
 unfold Y0 at h
 rw [cX] at h
 apply iU h <;> intro h
 ·apply iU h <;> intro h
  ·cases h; exact (.p _)
  ·cases h; exact (.p _)
 ·apply iU h <;> intro h
  ·apply iU h <;> intro h
   ·cases h; exact (.p _)
   ·cases h; exact (.p _)
  ·cases h; exact (.p _)
def Yg (rz : Q0 → Q0 → Option (Bool)) (N : Nat) (a : Q0) (b : Q0) : Nat → Int → Option (Bool)
 | 0, _ => none
 | n + 1, s28 =>
  cond (Qc .lss s28 ((Q0.rows a.Items).length : Int))
  ((idx a.Items s28).bind fun y30 =>
  (idx b.Items s28).bind fun y32 =>
  (rz y30 y32).bind fun v34 =>
  cond (!v34)
  (some false)
  (Yg rz N a b n (IntKind.wrap .i64 (s28 + 1))))
  (some true)
def Yf (rz : Q0 → Q0 → Option (Bool)) (N : Nat) (a : Q0) (b : Q0) : Nat → Int → Option (Bool)
 | 0, _ => none
 | n + 1, s54 =>
  cond (Qc .lss s54 ((Q0.rows a.Items).length : Int))
  ((idx a.Items s54).bind fun y56 =>
  (idx b.Items s54).bind fun y58 =>
  (rz y56 y58).bind fun v60 =>
  cond (!v60)
  (some false)
  (Yf rz N a b n (IntKind.wrap .i64 (s54 + 1))))
  (some true)
def Wi (rz : Q0 → Q0 → Option (Bool)) (N : Nat) (a : Q0) (b : Q0) : Option (Bool) :=
 cond (Qc .neq a.Kind b.Kind)
 (some false)
 (cond (Q6t .neq a.Text b.Text)
 (some false)
 (cond (Qc .neq ((Q0.rows a.Items).length : Int) ((Q0.rows b.Items).length : Int))
 (some false)
 (cond (Qc .neq a.N' b.N')
 ((Y0 N a).bind fun v5 =>
 cond v5
 ((Y0 N b).bind fun v8 =>
 cond (!v8)
 (some false)
 (Yg rz N a b N 0))
 (some false))
 (Yf rz N a b N 0))))
theorem Jr {rz : Q0 → Q0 → Option (Bool)} (hy1 : ∀ {a} {b} {r}, rz a b = some r → Yr Tryd.prog G1 97 [.agg (Q0.cells a), .agg (Q0.cells b)] (.bool r)) {N} {a} {b} {r} (h : Wi rz N a b = some r) : Yr Tryd.prog G1 97 [.agg (Q0.cells a), .agg (Q0.cells b)] (.bool r) := by
 refine Qe k97 ?_
 unfold Wi at h
 rw [cX, cY] at h
 apply iU h <;> intro h
 ·cases h; exact (.p _)
 ·apply iU h <;> intro h
  ·cases h; exact (.p _)
  ·apply iU h <;> intro h
   ·cases h; exact (.p _)
   ·apply iU h <;> intro h
    ·refine cP h Xy (.cons q4 .nil) fun v5 h => ?_
     apply iU h <;> intro h
     ·refine cP h Xy (.cons q4 .nil) fun v8 h => ?_
      apply iU h <;> intro h
      ·cases h; exact (.p _)
      ·refine lpC (τ := Int) (fun s28 => (.any :: .any :: .ptr 0 0 :: .ptr 1 0 :: a16 (a16 (a4 (a2 (.any :: iI ((Q0.rows a.Items).length : Int) :: iI s28 :: a8 (a4 (a2 (.any :: []))))))) : List AV)) (fun _ => (.cells (iI a.Kind :: iW a.N' :: iS a.Text :: .p (.slice 4 (Q0.rows a.Items)) :: []) :: .cells (iI b.Kind :: iW b.N' :: iS b.Text :: .p (.slice 4 (Q0.rows b.Items)) :: []) :: [] : List AObj)) (fun n0 s28 => Yg rz N a b n0 s28) (0) h (fun i => i) ⟨(rW <| rE rfl <| rE rfl <| rX <| rX <| rX <| rX <| rV <| rW <| rA <| rE rfl <| rE rfl <| rX <| rV <| rW <| rA <| rN), (hE rfl <| hE rfl <| hN), rfl, rfl, (roE rfl <| roE rfl <| roN)⟩ fun n0 s28 h => ?_
       simp only [Yg] at h
       rw [cX] at h
       apply iU h <;> intro h
       ·refine Q7 ?_
        refine Q0.xR h fun y30 h => ?_
        refine Q0.xR h fun y32 h => ?_
        refine cD h hy1 (.cons q4 (.cons q4 .nil)) fun v34 h => ?_
        apply iU h <;> intro h
        ·cases h; exact (.p _)
        ·show Exists _
         exact ⟨(n0, (IntKind.wrap .i64 (s28 + 1))), h, Nat.lt_succ_self _, (fun i => i), ⟨(rW <| rE rfl <| rE rfl <| rX <| rX <| rX <| rX <| rV <| rW <| rA <| rE rfl <| rE rfl <| rX <| rV <| rW <| rA <| rN), (hE rfl <| hE rfl <| hN), rfl, rfl, (roE rfl <| roE rfl <| roN)⟩⟩
       ·cases h; exact (.p _)
     ·cases h; exact (.p _)
    ·refine lpC (τ := Int) (fun s54 => (.any :: .any :: .ptr 0 0 :: .ptr 1 0 :: a16 (a16 (a4 (a2 (.any :: iI ((Q0.rows a.Items).length : Int) :: iI s54 :: a8 (a4 (a2 (.any :: []))))))) : List AV)) (fun _ => (.cells (iI a.Kind :: iW a.N' :: iS a.Text :: .p (.slice 4 (Q0.rows a.Items)) :: []) :: .cells (iI b.Kind :: iW b.N' :: iS b.Text :: .p (.slice 4 (Q0.rows b.Items)) :: []) :: [] : List AObj)) (fun n1 s54 => Yf rz N a b n1 s54) (0) h (fun i => i) ⟨(rW <| rE rfl <| rE rfl <| rX <| rX <| rX <| rX <| rV <| rW <| rA <| rE rfl <| rE rfl <| rX <| rV <| rW <| rA <| rN), (hE rfl <| hE rfl <| hN), rfl, rfl, (roE rfl <| roE rfl <| roN)⟩ fun n1 s54 h => ?_
     simp only [Yf] at h
     rw [cX] at h
     apply iU h <;> intro h
     ·refine Q7 ?_
      refine Q0.xR h fun y56 h => ?_
      refine Q0.xR h fun y58 h => ?_
      refine cD h hy1 (.cons q4 (.cons q4 .nil)) fun v60 h => ?_
      apply iU h <;> intro h
      ·cases h; exact (.p _)
      ·show Exists _
       exact ⟨(n1, (IntKind.wrap .i64 (s54 + 1))), h, Nat.lt_succ_self _, (fun i => i), ⟨(rW <| rE rfl <| rE rfl <| rX <| rX <| rX <| rX <| rV <| rW <| rA <| rE rfl <| rE rfl <| rX <| rV <| rW <| rA <| rN), (hE rfl <| hE rfl <| hN), rfl, rfl, (roE rfl <| roE rfl <| roN)⟩⟩
     ·cases h; exact (.p _)
def Xe : Nat → Q0 → Q0 → Option (Bool)
 | 0 => fun _ _ => none
 | N + 1 => Wi (Xe N) N
theorem Jo {N} {a} {b} {r} (h : Xe N a b = some r) : Yr Tryd.prog G1 97 [.agg (Q0.cells a), .agg (Q0.cells b)] (.bool r) := by
 induction N generalizing a b r with
 | zero => simp [Xe] at h
 | succ N ih => exact Jr (fun h => ih h) h
def Yq (N : Nat) (k0 : Int → Option (Int)) (v : Q0) (i56 : Int) : Nat → Int → Option (Int)
 | 0, _ => none
 | n + 1, k75 =>
  cond (Qc .lss k75 i56)
  ((idx v.Items i56).bind fun y77 =>
  (idx v.Items k75).bind fun y79 =>
  (Xe N y77 y79).bind fun v81 =>
  cond v81
  (some 16)
  (Yq N k0 v i56 n (IntKind.wrap .i64 (k75 + 2))))
  (k0 (IntKind.wrap .i64 (i56 + 2)))
def Y3 (N : Nat) (v : Q0) : Nat → Int → Option (Int)
 | 0, _ => none
 | n + 1, i56 =>
  cond (Qc .lss i56 ((Q0.rows v.Items).length : Int))
  (Yq N (Y3 N v n) v i56 N 0)
  (some 0)
def Yd (N : Nat) (v : Q0) : Option (Int) :=
 cond (Qc .neq v.Kind 23)
 (some 0)
 (Y3 N v N 2)
theorem Yo {N} {v} {r} (h : Yd N v = some r) : Yr Tryd.prog G1 76 [.agg (Q0.cells v)] (.int .i64 r) := by
 refine Qe k76 ?_
 unfold Yd at h
 rw [cX] at h
 apply iU h <;> intro h
 ·cases h; exact (.p _)
 ·refine lpC (τ := Int) (fun i56 => (.any :: .ptr 0 0 :: .any :: iI i56 :: a16 (a8 (a2 (.any :: []))) : List AV)) (fun _ => (.cells (iI v.Kind :: iW v.N' :: iS v.Text :: .p (.slice 4 (Q0.rows v.Items)) :: []) :: [] : List AObj)) (fun n0 i56 => Y3 N v n0 i56) (2) h (fun i => i) ⟨(rA <| rE rfl <| rA <| rE rfl <| rX <| rX <| rX <| rW <| rA <| rN), (hE rfl <| hN), rfl, rfl, (roE rfl <| roN)⟩ fun n0 i56 h => ?_
  simp only [Y3] at h
  rw [cX] at h
  apply iU h <;> intro h
  ·refine lpC (τ := Int) (fun k75 => (.any :: .ptr 0 0 :: .any :: iI i56 :: iI k75 :: a16 (a8 (a2 ([]))) : List AV)) (fun _ => (.cells (iI v.Kind :: iW v.N' :: iS v.Text :: .p (.slice 4 (Q0.rows v.Items)) :: []) :: [] : List AObj)) (fun n1 k75 => Yq N (Y3 N v n0) v i56 n1 k75) (0) h (fun i => i) ⟨(rA <| rE rfl <| rA <| rE rfl <| rE rfl <| rX <| rX <| rX <| rW <| rN), (hE rfl <| hN), rfl, rfl, (roE rfl <| roN)⟩ fun n1 k75 h => ?_
   simp only [Yq] at h
   rw [cX] at h
   apply iU h <;> intro h
   ·refine Q7 ?_
    refine Q0.xR h fun y77 h => ?_
    refine Q0.xR h fun y79 h => ?_
    refine cD h Jo (.cons q4 (.cons q4 .nil)) fun v81 h => ?_
    apply iU h <;> intro h
    ·cases h; exact (.p _)
    ·show Exists _
     exact ⟨(n1, (IntKind.wrap .i64 (k75 + 2))), h, Nat.lt_succ_self _, (fun i => i), ⟨(rA <| rE rfl <| rA <| rE rfl <| rE rfl <| rX <| rX <| rX <| rW <| rN), (hE rfl <| hN), rfl, rfl, (roE rfl <| roN)⟩⟩
   ·show Exists _
    exact ⟨(n0, (IntKind.wrap .i64 (i56 + 2))), h, Nat.lt_succ_self _, (fun i => i), ⟨(rA <| rE rfl <| rA <| rE rfl <| rX <| rX <| rX <| rW <| rA <| rN), (hE rfl <| hN), rfl, rfl, (roE rfl <| roN)⟩⟩
  ·cases h; exact (.p _)
def W3 (_N : Nat) (kind : Int) : Option (Int × Bool) :=
 cond (Qc .eql kind 2)
 (some (1, false))
 (cond (Qc .eql kind 3)
 (some (8, false))
 (cond (Qc .eql kind 4)
 (some (16, false))
 (cond (Qc .eql kind 5)
 (some (32, false))
 (cond (Qc .eql kind 11)
 (some (32, false))
 (cond (Qc .eql kind 13)
 (some (32, false))
 (cond (Qc .eql kind 16)
 (some (32, false))
 (cond (Qc .eql kind 6)
 (some (64, false))
 (cond (Qc .eql kind 12)
 (some (64, false))
 (cond (Qc .eql kind 14)
 (some (64, false))
 (cond (Qc .eql kind 7)
 (some (8, true))
 (cond (Qc .eql kind 8)
 (some (16, true))
 (cond (Qc .eql kind 9)
 (some (32, true))
 (cond (Qc .eql kind 10)
 (some (64, true))
 (cond (Qc .eql kind 17)
 (some (64, true))
 (some (0, false))))))))))))))))
theorem Vi {N} {kind} {r} (h : W3 N kind = some r) : Yr Tryd.prog G1 92 [.int .i64 kind] (.tuple [.int .i64 r.1, .bool r.2]) := by
 refine Qe k92 ?_
 unfold W3 at h
 rw [cX] at h
 apply iU h <;> intro h
 ·obtain rfl := Qb h; exact u2
 ·apply iU h <;> intro h
  ·obtain rfl := Qb h; exact u2
  ·apply iU h <;> intro h
   ·obtain rfl := Qb h; exact u2
   ·refine ifO h (fun hc4 h => ?_) (fun hc4 h => ?_)
    ·refine ifT hc4 ?_
     obtain rfl := Qb h; exact u2
    ·refine ifO h (fun hc5 h => ?_) (fun hc5 h => ?_)
     ·refine ifT hc5 ?_
      obtain rfl := Qb h; exact u2
     ·refine ifO h (fun hc6 h => ?_) (fun hc6 h => ?_)
      ·refine ifT hc6 ?_
       obtain rfl := Qb h; exact u2
      ·apply iU h <;> intro h
       ·obtain rfl := Qb h; exact u2
       ·refine ifO h (fun hc8 h => ?_) (fun hc8 h => ?_)
        ·refine ifT hc8 ?_
         obtain rfl := Qb h; exact u2
        ·refine ifO h (fun hc9 h => ?_) (fun hc9 h => ?_)
         ·refine ifT hc9 ?_
          obtain rfl := Qb h; exact u2
         ·apply iU h <;> intro h
          ·obtain rfl := Qb h; exact u2
          ·apply iU h <;> intro h
           ·obtain rfl := Qb h; exact u2
           ·apply iU h <;> intro h
            ·obtain rfl := Qb h; exact u2
            ·apply iU h <;> intro h
             ·obtain rfl := Qb h; exact u2
             ·refine ifO h (fun hc14 h => ?_) (fun hc14 h => ?_)
              ·refine ifT hc14 ?_
               obtain rfl := Qb h; exact u2
              ·apply iU h <;> intro h
               ·obtain rfl := Qb h; exact u2
               ·obtain rfl := Qb h; exact u2
def Wx (N : Nat) (c : Y7) (n_1 : Int) : Option (Int) :=
 (W3 N c.Kind).bind fun v1 =>
 cond v1.2
 (cond (Qc .gtr c.Width 0)
 (cond (decide (0 ≤ (IntKind.wrap .i64 (64 - (IntKind.wrap .i64 (8 * c.Width)))))) (some (IntKind.wrap .u64 (Qcf .i64 (IntKind.wrap .i64 (Q43 .u64 n_1 (IntKind.wrap .i64 (64 - (IntKind.wrap .i64 (8 * c.Width)))))) (IntKind.wrap .i64 (64 - (IntKind.wrap .i64 (8 * c.Width))))))) none)
 (some n_1))
 (some n_1)
theorem Gh {N} {c} {n_1} {r} (h : Wx N c n_1 = some r) : Yr Tryd.prog G1 71 [.agg (Y7.cells c), .int .u64 n_1] (.int .u64 r) := by
 refine Qe k71 ?_
 unfold Wx at h
 rw [cX] at h
 refine cP h Vi p1 fun v1 h => ?_
 apply iU h <;> intro h
 ·apply iU h <;> intro h
  ·obtain ⟨hk5, h⟩ := Vq h
   refine V5 hk5 ?_
   refine V5 hk5 ?_
   cases h; exact (.p _)
  ·cases h; exact (.p _)
 ·cases h; exact (.p _)
def Qf (_N : Nat) (s_0 : List UInt8) : Option (Int) :=
 (idx s_0 0).bind fun b1 =>
 (idx s_0 1).bind fun b3 =>
 (idx s_0 2).bind fun b5 =>
 (idx s_0 3).bind fun b7 =>
 (idx s_0 4).bind fun b9 =>
 (idx s_0 5).bind fun b11 =>
 (idx s_0 6).bind fun b13 =>
 (idx s_0 7).bind fun b15 =>
 some (orI .u64 (orI .u64 (orI .u64 (orI .u64 (orI .u64 (orI .u64 (orI .u64 (IntKind.wrap .u64 (b1.toNat : Int)) (Q43 .u64 (IntKind.wrap .u64 (b3.toNat : Int)) 8)) (Q43 .u64 (IntKind.wrap .u64 (b5.toNat : Int)) 16)) (Q43 .u64 (IntKind.wrap .u64 (b7.toNat : Int)) 24)) (Q43 .u64 (IntKind.wrap .u64 (b9.toNat : Int)) 32)) (Q43 .u64 (IntKind.wrap .u64 (b11.toNat : Int)) 40)) (Q43 .u64 (IntKind.wrap .u64 (b13.toNat : Int)) 48)) (Q43 .u64 (IntKind.wrap .u64 (b15.toNat : Int)) 56))
theorem Ql {N} {s_0} {r} (h : Qf N s_0 = some r) : Yr Tryd.prog G1 119 [.str s_0] (.int .u64 r) := by
 refine Qe Qh9 ?_
 unfold Qf at h
 refine Q7 ?_
 refine xB h fun b1 h => ?_
 refine xB h fun b3 h => ?_
 refine xB h fun b5 h => ?_
 refine xB h fun b7 h => ?_
 refine xB h fun b9 h => ?_
 refine xB h fun b11 h => ?_
 refine xB h fun b13 h => ?_
 refine xB h fun b15 h => ?_
 cases h; exact (.p _)
def Zc (N : Nat) (k0 : (List UInt8) → Option (Bool)) : Nat → (List UInt8) → Option (Bool)
 | 0, _ => none
 | n + 1, s272 =>
  cond (Qc .gtr (s272.length : Int) 32)
  ((Qf N s272).bind fun v274 =>
  cond (Nat.ble 8 s272.length && Nat.ble s272.length s272.length) ((Qf N ((s272.take s272.length).drop 8)).bind fun v277 =>
  cond (Nat.ble 16 s272.length && Nat.ble s272.length s272.length) ((Qf N ((s272.take s272.length).drop 16)).bind fun v280 =>
  cond (Nat.ble 24 s272.length && Nat.ble s272.length s272.length) ((Qf N ((s272.take s272.length).drop 24)).bind fun v283 =>
  cond (Qc .eql (Q9r .u64 (orI .u64 (orI .u64 v274 v277) (orI .u64 v280 v283)) 9259542123273814144) 0)
  (cond (Nat.ble 32 s272.length && Nat.ble s272.length s272.length) (Zc N k0 n ((s272.take s272.length).drop 32)) none)
  (k0 s272)) none) none) none)
  (k0 s272)
def Q6 (N : Nat) : Nat → (List UInt8) → Option (Bool)
 | 0, _ => none
 | n + 1, s224 =>
  cond (Qc .gtr (s224.length : Int) 0)
  ((idx s224 0).bind fun b226 =>
  cond (Qc .lss (b226.toNat : Int) 128)
  (cond (Nat.ble 1 s224.length && Nat.ble s224.length s224.length) (cond (Qc .gtr (((s224.take s224.length).drop 1).length : Int) 8)
  ((Qf N ((s224.take s224.length).drop 1)).bind fun v231 =>
  cond (Qc .eql (Q9r .u64 v231 9259542123273814144) 0)
  (cond (Nat.ble 8 (((s224.take s224.length).drop 1).length) && Nat.ble (((s224.take s224.length).drop 1).length) ((s224.take s224.length).drop 1).length) (cond (Qc .gtr (((((s224.take s224.length).drop 1).take (((s224.take s224.length).drop 1).length)).drop 8).length : Int) 16)
  ((Qf N ((((s224.take s224.length).drop 1).take (((s224.take s224.length).drop 1).length)).drop 8)).bind fun v236 =>
  cond (Nat.ble 8 (((((s224.take s224.length).drop 1).take (((s224.take s224.length).drop 1).length)).drop 8).length) && Nat.ble (((((s224.take s224.length).drop 1).take (((s224.take s224.length).drop 1).length)).drop 8).length) ((((s224.take s224.length).drop 1).take (((s224.take s224.length).drop 1).length)).drop 8).length) ((Qf N ((((((s224.take s224.length).drop 1).take (((s224.take s224.length).drop 1).length)).drop 8).take (((((s224.take s224.length).drop 1).take (((s224.take s224.length).drop 1).length)).drop 8).length)).drop 8)).bind fun v239 =>
  cond (Qc .eql (Q9r .u64 (orI .u64 v236 v239) 9259542123273814144) 0)
  (cond (Nat.ble 16 (((((s224.take s224.length).drop 1).take (((s224.take s224.length).drop 1).length)).drop 8).length) && Nat.ble (((((s224.take s224.length).drop 1).take (((s224.take s224.length).drop 1).length)).drop 8).length) ((((s224.take s224.length).drop 1).take (((s224.take s224.length).drop 1).length)).drop 8).length) (Zc N (Q6 N n) N ((((((s224.take s224.length).drop 1).take (((s224.take s224.length).drop 1).length)).drop 8).take (((((s224.take s224.length).drop 1).take (((s224.take s224.length).drop 1).length)).drop 8).length)).drop 16)) none)
  (Q6 N n ((((s224.take s224.length).drop 1).take (((s224.take s224.length).drop 1).length)).drop 8))) none)
  (Q6 N n ((((s224.take s224.length).drop 1).take (((s224.take s224.length).drop 1).length)).drop 8))) none)
  (Q6 N n ((s224.take s224.length).drop 1)))
  (Q6 N n ((s224.take s224.length).drop 1))) none)
  ((idx gtab0 (b226.toNat : Int)).bind fun y287 =>
  (idx gtab1 (Qcf .u8 y287 4)).bind fun y289 =>
  cond (Qc .eql (IntKind.wrap .i64 (Q9r .u8 y287 7)) 2)
  (cond (Qc .lss (s224.length : Int) 2)
  (some false)
  ((idx s224 1).bind fun b293 =>
  cond (Qc .lss (b293.toNat : Int) y289.1)
  (some false)
  ((idx s224 1).bind fun b296 =>
  cond (Qc .lss y289.2 (b296.toNat : Int))
  (some false)
  (cond (Nat.ble 2 s224.length && Nat.ble s224.length s224.length) (Q6 N n ((s224.take s224.length).drop 2)) none))))
  (cond (Qc .eql (IntKind.wrap .i64 (Q9r .u8 y287 7)) 3)
  (cond (Qc .lss (s224.length : Int) 3)
  (some false)
  ((idx s224 1).bind fun b302 =>
  cond (Qc .lss (b302.toNat : Int) y289.1)
  (some false)
  ((idx s224 1).bind fun b305 =>
  cond (Qc .lss y289.2 (b305.toNat : Int))
  (some false)
  ((idx s224 2).bind fun b308 =>
  cond (Qc .lss (b308.toNat : Int) 128)
  (some false)
  ((idx s224 2).bind fun b311 =>
  cond (Qc .lss 191 (b311.toNat : Int))
  (some false)
  (cond (Nat.ble 3 s224.length && Nat.ble s224.length s224.length) (Q6 N n ((s224.take s224.length).drop 3)) none))))))
  (cond (Qc .eql (IntKind.wrap .i64 (Q9r .u8 y287 7)) 4)
  (cond (Qc .lss (s224.length : Int) 4)
  (some false)
  ((idx s224 1).bind fun b317 =>
  cond (Qc .lss (b317.toNat : Int) y289.1)
  (some false)
  ((idx s224 1).bind fun b320 =>
  cond (Qc .lss y289.2 (b320.toNat : Int))
  (some false)
  ((idx s224 2).bind fun b323 =>
  cond (Qc .lss (b323.toNat : Int) 128)
  (some false)
  ((idx s224 2).bind fun b326 =>
  cond (Qc .lss 191 (b326.toNat : Int))
  (some false)
  ((idx s224 3).bind fun b329 =>
  cond (Qc .lss (b329.toNat : Int) 128)
  (some false)
  ((idx s224 3).bind fun b332 =>
  cond (Qc .lss 191 (b332.toNat : Int))
  (some false)
  (cond (Nat.ble 4 s224.length && Nat.ble s224.length s224.length) (Q6 N n ((s224.take s224.length).drop 4)) none))))))))
  (some false)))))
  (some true)
def Y1 (N : Nat) (s_0 : List UInt8) : Option (Bool) :=
 Q6 N N s_0
theorem Wb {N} {s_0} {r} (h : Y1 N s_0 = some r) : Yr Tryd.prog G1 106 [.str s_0] (.bool r) := by
 refine Qe Qgu ?_
 unfold Y1 at h
 refine lpC (τ := (List UInt8)) (fun s224 => (iS s224 :: a16 (a16 (a16 (a16 (a16 (a16 (a16 (a16 (a16 (a16 (a8 ([]))))))))))) : List AV)) (fun _ => ([] : List AObj)) (fun n0 s224 => Q6 N n0 s224) (s_0) h (fun i => i) ⟨(rE rfl <| rX <| rX <| rX <| rX <| rX <| rX <| rX <| rX <| rX <| rX <| rX <| rX <| rX <| rX <| rX <| rX <| rX <| rX <| rX <| rX <| rX <| rN), (hN), rfl, rfl, (roN)⟩ fun n0 s224 h => ?_
 simp only [Q6] at h
 rw [cX] at h
 apply iU h <;> intro h
 ·refine xB h fun b226 h => ?_
  apply iU h <;> intro h
  ·refine kU h fun h => ?_
   apply iU h <;> intro h
   ·refine cP h Ql p1 fun v231 h => ?_
    apply iU h <;> intro h
    ·refine kU h fun h => ?_
     refine Q7 ?_
     apply iU h <;> intro h
     ·refine cD h Ql p1 fun v236 h => ?_
      refine kU h fun h => ?_
      refine cD h Ql p1 fun v239 h => ?_
      apply iU h <;> intro h
      ·refine kU h fun h => ?_
       refine lpC (τ := (List UInt8)) (fun s272 => (iS s272 :: a16 (a16 (a16 (a16 (a16 (a16 (a16 (a16 (a16 (a16 (a8 ([]))))))))))) : List AV)) (fun _ => ([] : List AObj)) (fun n1 s272 => Zc N (Q6 N n0) n1 s272) (((((((s224.take s224.length).drop 1).take (((s224.take s224.length).drop 1).length)).drop 8).take (((((s224.take s224.length).drop 1).take (((s224.take s224.length).drop 1).length)).drop 8).length)).drop 16)) h (fun i => i) ⟨(rE rfl <| rX <| rX <| rX <| rX <| rX <| rX <| rX <| rX <| rX <| rX <| rX <| rX <| rX <| rX <| rX <| rX <| rX <| rX <| rX <| rX <| rX <| rN), (hN), rfl, rfl, (roN)⟩ fun n1 s272 h => ?_
       simp only [Zc] at h
       rw [cX] at h
       refine Q7 ?_
       apply iU h <;> intro h
       ·refine cD h Ql p1 fun v274 h => ?_
        refine kU h fun h => ?_
        refine cD h Ql p1 fun v277 h => ?_
        refine kU h fun h => ?_
        refine cD h Ql p1 fun v280 h => ?_
        refine kU h fun h => ?_
        refine cD h Ql p1 fun v283 h => ?_
        apply iU h <;> intro h
        ·refine kU h fun h => ?_
         show Exists _
         exact ⟨(n1, ((s272.take s272.length).drop 32)), h, Nat.lt_succ_self _, (fun i => i), ⟨(rE rfl <| rX <| rX <| rX <| rX <| rX <| rX <| rX <| rX <| rX <| rX <| rX <| rX <| rX <| rX <| rX <| rX <| rX <| rX <| rX <| rX <| rX <| rN), (hN), rfl, rfl, (roN)⟩⟩
        ·show Exists _
         exact ⟨(n0, s272), h, Nat.lt_succ_self _, (fun i => i), ⟨(rE rfl <| rX <| rX <| rX <| rX <| rX <| rX <| rX <| rX <| rX <| rX <| rX <| rX <| rX <| rX <| rX <| rX <| rX <| rX <| rX <| rX <| rX <| rN), (hN), rfl, rfl, (roN)⟩⟩
       ·show Exists _
        exact ⟨(n0, s272), h, Nat.lt_succ_self _, (fun i => i), ⟨(rE rfl <| rX <| rX <| rX <| rX <| rX <| rX <| rX <| rX <| rX <| rX <| rX <| rX <| rX <| rX <| rX <| rX <| rX <| rX <| rX <| rX <| rX <| rN), (hN), rfl, rfl, (roN)⟩⟩
      ·show Exists _
       exact ⟨(n0, ((((s224.take s224.length).drop 1).take (((s224.take s224.length).drop 1).length)).drop 8)), h, Nat.lt_succ_self _, (fun i => i), ⟨(rE rfl <| rX <| rX <| rX <| rX <| rX <| rX <| rX <| rX <| rX <| rX <| rX <| rX <| rX <| rX <| rX <| rX <| rX <| rX <| rX <| rX <| rX <| rN), (hN), rfl, rfl, (roN)⟩⟩
     ·show Exists _
      exact ⟨(n0, ((((s224.take s224.length).drop 1).take (((s224.take s224.length).drop 1).length)).drop 8)), h, Nat.lt_succ_self _, (fun i => i), ⟨(rE rfl <| rX <| rX <| rX <| rX <| rX <| rX <| rX <| rX <| rX <| rX <| rX <| rX <| rX <| rX <| rX <| rX <| rX <| rX <| rX <| rX <| rX <| rN), (hN), rfl, rfl, (roN)⟩⟩
    ·show Exists _
     exact ⟨(n0, ((s224.take s224.length).drop 1)), h, Nat.lt_succ_self _, (fun i => i), ⟨(rE rfl <| rX <| rX <| rX <| rX <| rX <| rX <| rX <| rX <| rX <| rX <| rX <| rX <| rX <| rX <| rX <| rX <| rX <| rX <| rX <| rX <| rX <| rN), (hN), rfl, rfl, (roN)⟩⟩
   ·show Exists _
    exact ⟨(n0, ((s224.take s224.length).drop 1)), h, Nat.lt_succ_self _, (fun i => i), ⟨(rE rfl <| rX <| rX <| rX <| rX <| rX <| rX <| rX <| rX <| rX <| rX <| rX <| rX <| rX <| rX <| rX <| rX <| rX <| rX <| rX <| rX <| rX <| rN), (hN), rfl, rfl, (roN)⟩⟩
  ·obtain ⟨y287, hy288, h⟩ := Vt h
   refine V5 (Q6e hy288 Qa1) ?_
   refine Qa9 (c := (cI .u8)) (e := 1) (fun _ => rfl) Qbw hy288 (off := 0) (by decide) (by first | omega | (simp only [Q9r, orI, Qff, Q6o, Q43, Qcf]; omega)) ?_
   obtain ⟨y289, hy290, h⟩ := Vt h
   refine V5 (Q6e hy290 Qaw) ?_
   refine Qa9 (c := cUU) (e := 2) (fun _ => rfl) Qbn hy290 (off := 0) (by decide) (by first | omega | (simp only [Q9r, orI, Qff, Q6o, Q43, Qcf]; omega)) ?_
   apply iU h <;> intro h
   ·refine Q7 ?_
    apply iU h <;> intro h
    ·cases h; exact (.p _)
    ·refine xB h fun b293 h => ?_
     apply iU h <;> intro h
     ·cases h; exact (.p _)
     ·refine xB h fun b296 h => ?_
      apply iU h <;> intro h
      ·cases h; exact (.p _)
      ·refine kU h fun h => ?_
       show Exists _
       exact ⟨(n0, ((s224.take s224.length).drop 2)), h, Nat.lt_succ_self _, (fun i => i), ⟨(rE rfl <| rX <| rX <| rX <| rX <| rX <| rX <| rX <| rX <| rX <| rX <| rX <| rX <| rX <| rX <| rX <| rX <| rX <| rX <| rX <| rX <| rX <| rN), (hN), rfl, rfl, (roN)⟩⟩
   ·apply iU h <;> intro h
    ·refine Q7 ?_
     apply iU h <;> intro h
     ·cases h; exact (.p _)
     ·refine xB h fun b302 h => ?_
      apply iU h <;> intro h
      ·cases h; exact (.p _)
      ·refine xB h fun b305 h => ?_
       apply iU h <;> intro h
       ·cases h; exact (.p _)
       ·refine xB h fun b308 h => ?_
        apply iU h <;> intro h
        ·cases h; exact (.p _)
        ·refine xB h fun b311 h => ?_
         apply iU h <;> intro h
         ·cases h; exact (.p _)
         ·refine kU h fun h => ?_
          show Exists _
          exact ⟨(n0, ((s224.take s224.length).drop 3)), h, Nat.lt_succ_self _, (fun i => i), ⟨(rE rfl <| rX <| rX <| rX <| rX <| rX <| rX <| rX <| rX <| rX <| rX <| rX <| rX <| rX <| rX <| rX <| rX <| rX <| rX <| rX <| rX <| rX <| rN), (hN), rfl, rfl, (roN)⟩⟩
    ·apply iU h <;> intro h
     ·refine Q7 ?_
      apply iU h <;> intro h
      ·cases h; exact (.p _)
      ·refine xB h fun b317 h => ?_
       apply iU h <;> intro h
       ·cases h; exact (.p _)
       ·refine xB h fun b320 h => ?_
        apply iU h <;> intro h
        ·cases h; exact (.p _)
        ·refine xB h fun b323 h => ?_
         apply iU h <;> intro h
         ·cases h; exact (.p _)
         ·refine xB h fun b326 h => ?_
          apply iU h <;> intro h
          ·cases h; exact (.p _)
          ·refine xB h fun b329 h => ?_
           apply iU h <;> intro h
           ·cases h; exact (.p _)
           ·refine xB h fun b332 h => ?_
            apply iU h <;> intro h
            ·cases h; exact (.p _)
            ·refine kU h fun h => ?_
             show Exists _
             exact ⟨(n0, ((s224.take s224.length).drop 4)), h, Nat.lt_succ_self _, (fun i => i), ⟨(rE rfl <| rX <| rX <| rX <| rX <| rX <| rX <| rX <| rX <| rX <| rX <| rX <| rX <| rX <| rX <| rX <| rX <| rX <| rX <| rX <| rX <| rX <| rN), (hN), rfl, rfl, (roN)⟩⟩
     ·cases h; exact (.p _)
 ·cases h; exact (.p _)
def Yw (N : Nat) (v : Q0) : Nat → Int → Option (Int)
 | 0, _ => none
 | n + 1, s15 =>
  cond (Qc .lss s15 (v.Text.length : Int))
  ((idx v.Text s15).bind fun b17 =>
  cond (Qc .geq (b17.toNat : Int) 128)
  (some 6)
  (Yw N v n (IntKind.wrap .i64 (s15 + 1))))
  (some 0)
def Zv (N : Nat) (v : Q0) : Option (Int) :=
 cond (Qc .eql v.Kind 20)
 ((Y1 N v.Text).bind fun v2 =>
 cond (!v2)
 (some 6)
 (some 0))
 (cond (Qc .eql v.Kind 21)
 (Yw N v N 0)
 (some 0))
theorem Zw {N} {v} {r} (h : Zv N v = some r) : Yr Tryd.prog G1 96 [.agg (Q0.cells v)] (.int .i64 r) := by
 refine Qe k96 ?_
 unfold Zv at h
 rw [cX] at h
 apply iU h <;> intro h
 ·refine cP h Wb p1 fun v2 h => ?_
  apply iU h <;> intro h
  ·cases h; exact (.p _)
  ·cases h; exact (.p _)
 ·apply iU h <;> intro h
  ·refine lpC (τ := Int) (fun s15 => (.any :: .ptr 0 0 :: a8 (a4 (a2 (iI (v.Text.length : Int) :: iI s15 :: a8 ([])))) : List AV)) (fun _ => (.cells (iI v.Kind :: iW v.N' :: iS v.Text :: .p (.slice 4 (Q0.rows v.Items)) :: []) :: [] : List AObj)) (fun n0 s15 => Yw N v n0 s15) (0) h (fun i => i) ⟨(rA <| rE rfl <| rX <| rV <| rW <| rE rfl <| rE rfl <| rX <| rN), (hE rfl <| hN), rfl, rfl, (roE rfl <| roN)⟩ fun n0 s15 h => ?_
   simp only [Yw] at h
   rw [cX] at h
   apply iU h <;> intro h
   ·refine xB h fun b17 h => ?_
    apply iU h <;> intro h
    ·cases h; exact (.p _)
    ·show Exists _
     exact ⟨(n0, (IntKind.wrap .i64 (s15 + 1))), h, Nat.lt_succ_self _, (fun i => i), ⟨(rA <| rE rfl <| rX <| rV <| rW <| rE rfl <| rE rfl <| rX <| rN), (hE rfl <| hN), rfl, rfl, (roE rfl <| roN)⟩⟩
   ·cases h; exact (.p _)
  ·cases h; exact (.p _)
def Xp (_N : Nat) (n_0 : Int) (bits : Int) (signed : Bool) : Option (Bool) :=
 cond signed
 (cond (decide (0 ≤ (IntKind.wrap .i64 (bits - 1)))) (cond (Qc .geq (IntKind.wrap .i64 n_0) (Q43 .i64 (-1) (IntKind.wrap .i64 (bits - 1))))
 (some (Qc .leq (IntKind.wrap .i64 n_0) (IntKind.wrap .i64 (0 - (IntKind.wrap .i64 ((Q43 .i64 (-1) (IntKind.wrap .i64 (bits - 1))) + 1))))))
 (some false)) none)
 (cond (Qc .eql bits 64)
 (some true)
 (cond (decide (0 ≤ bits)) (some (Qc .eql (Qcf .u64 n_0 bits) 0)) none))
theorem Um {N} {n_0} {bits} {signed} {r} (h : Xp N n_0 bits signed = some r) : Yr Tryd.prog G1 93 [.int .u64 n_0, .int .i64 bits, .bool signed] (.bool r) := by
 refine Qe k93 ?_
 unfold Xp at h
 rw [cX] at h
 apply iU h <;> intro h
 ·refine kU h fun h => ?_
  apply iU h <;> intro h
  ·cases h; exact (.p _)
  ·cases h; exact (.p _)
 ·apply iU h <;> intro h
  ·cases h; exact (.p _)
  ·refine kU h fun h => ?_
   cases h; exact (.p _)
def Ya (_N : Nat) (r_0 : Int) : Option (Bool) :=
 cond (Qc .leq 0 r_0)
 (cond (Qc .lss r_0 55296)
 (some true)
 (cond (Qc .lss 57343 r_0)
 (cond (Qc .leq r_0 1114111)
 (some true)
 (some false))
 (some false)))
 (cond (Qc .lss 57343 r_0)
 (cond (Qc .leq r_0 1114111)
 (some true)
 (some false))
 (some false))
theorem Wt {N} {r_0} {r} (h : Ya N r_0 = some r) : Yr Tryd.prog G1 105 [.int .i32 r_0] (.bool r) := by
 refine Qe Qgd ?_
 unfold Ya at h
 rw [cX] at h
 apply iU h <;> intro h
 ·apply iU h <;> intro h
  ·cases h; exact (.p _)
  ·apply iU h <;> intro h
   ·apply iU h <;> intro h
    ·cases h; exact (.p _)
    ·cases h; exact (.p _)
   ·cases h; exact (.p _)
 ·apply iU h <;> intro h
  ·apply iU h <;> intro h
   ·cases h; exact (.p _)
   ·cases h; exact (.p _)
  ·cases h; exact (.p _)
def Xh (N : Nat) (n_0 : Int) : Option (Bool) :=
 cond (Qc .leq n_0 1114111)
 ((Ya N (IntKind.wrap .i32 n_0)).bind fun v2 =>
 some v2)
 (some false)
theorem Uc {N} {n_0} {r} (h : Xh N n_0 = some r) : Yr Tryd.prog G1 94 [.int .u64 n_0] (.bool r) := by
 refine Qe k94 ?_
 unfold Xh at h
 rw [cX] at h
 apply iU h <;> intro h
 ·refine cP h Wt p1 fun v2 h => ?_
  cases h; exact (.p _)
 ·cases h; exact (.p _)
def Yz (_N : Nat) (kind : Int) : Option (Bool) :=
 cond (Qc .eql kind 15)
 (some true)
 (cond (Qc .eql kind 18)
 (some true)
 (cond (Qc .eql kind 19)
 (some true)
 (cond (Qc .eql kind 20)
 (some true)
 (cond (Qc .eql kind 21)
 (some true)
 (some false)))))
theorem Wj {N} {kind} {r} (h : Yz N kind = some r) : Yr Tryd.prog G1 95 [.int .i64 kind] (.bool r) := by
 refine Qe k95 ?_
 unfold Yz at h
 rw [cX] at h
 refine ifO h (fun hc1 h => ?_) (fun hc1 h => ?_)
 ·refine ifT hc1 ?_
  cases h; exact (.p _)
 ·refine ifO h (fun hc2 h => ?_) (fun hc2 h => ?_)
  ·refine ifT hc2 ?_
   cases h; exact (.p _)
  ·refine ifO h (fun hc3 h => ?_) (fun hc3 h => ?_)
   ·refine ifT hc3 ?_
    cases h; exact (.p _)
   ·refine ifO h (fun hc4 h => ?_) (fun hc4 h => ?_)
    ·refine ifT hc4 ?_
     cases h; exact (.p _)
    ·apply iU h <;> intro h
     ·cases h; exact (.p _)
     ·cases h; exact (.p _)
def Yc (N : Nat) (v : Q0) : Option (Int) :=
 cond (Qc .lss v.Kind 1)
 (some 8)
 (cond (Qc .gtr v.Kind 21)
 (some 8)
 ((W3 N v.Kind).bind fun v3 =>
 (Xp N v.N' v3.1 v3.2).bind fun v5 =>
 cond (!v5)
 (some 2)
 (cond (Qc .eql v.Kind 16)
 ((Xh N v.N').bind fun v9 =>
 cond (!v9)
 (some 2)
 (cond (Qc .neq ((Q0.rows v.Items).length : Int) 0)
 (some 2)
 ((Yz N v.Kind).bind fun v13 =>
 cond (!v13)
 (cond (Q6t .neq v.Text [])
 (some 2)
 (some 0))
 (cond (Qc .eql v.Kind 15)
 (cond (Qc .neq (v.Text.length : Int) 16)
 (some 2)
 (cond (Qc .gtr (v.Text.length : Int) 1048576)
 (some 4)
 ((Zv N v).bind fun v20 =>
 some v20)))
 (cond (Qc .eql v.Kind 18)
 (cond (Qc .neq (v.Text.length : Int) 16)
 (some 2)
 (cond (Qc .gtr (v.Text.length : Int) 1048576)
 (some 4)
 ((Zv N v).bind fun v25 =>
 some v25)))
 (cond (Qc .gtr (v.Text.length : Int) 1048576)
 (some 4)
 ((Zv N v).bind fun v28 =>
 some v28)))))))
 (cond (Qc .neq ((Q0.rows v.Items).length : Int) 0)
 (some 2)
 ((Yz N v.Kind).bind fun v31 =>
 cond (!v31)
 (cond (Q6t .neq v.Text [])
 (some 2)
 (some 0))
 (cond (Qc .eql v.Kind 15)
 (cond (Qc .neq (v.Text.length : Int) 16)
 (some 2)
 (cond (Qc .gtr (v.Text.length : Int) 1048576)
 (some 4)
 ((Zv N v).bind fun v38 =>
 some v38)))
 (cond (Qc .eql v.Kind 18)
 (cond (Qc .neq (v.Text.length : Int) 16)
 (some 2)
 (cond (Qc .gtr (v.Text.length : Int) 1048576)
 (some 4)
 ((Zv N v).bind fun v43 =>
 some v43)))
 (cond (Qc .gtr (v.Text.length : Int) 1048576)
 (some 4)
 ((Zv N v).bind fun v46 =>
 some v46)))))))))
theorem Yn {N} {v} {r} (h : Yc N v = some r) : Yr Tryd.prog G1 73 [.agg (Q0.cells v)] (.int .i64 r) := by
 refine Qe k73 ?_
 unfold Yc at h
 rw [cX, cY] at h
 apply iU h <;> intro h
 ·cases h; exact (.p _)
 ·apply iU h <;> intro h
  ·cases h; exact (.p _)
  ·refine cP h Vi p1 fun v3 h => ?_
   refine cP h Um p3 fun v5 h => ?_
   apply iU h <;> intro h
   ·cases h; exact (.p _)
   ·apply iU h <;> intro h
    ·refine cP h Uc p1 fun v9 h => ?_
     apply iU h <;> intro h
     ·cases h; exact (.p _)
     ·apply iU h <;> intro h
      ·cases h; exact (.p _)
      ·refine cP h Wj p1 fun v13 h => ?_
       apply iU h <;> intro h
       ·apply iU h <;> intro h
        ·cases h; exact (.p _)
        ·cases h; exact (.p _)
       ·apply iU h <;> intro h
        ·apply iU h <;> intro h
         ·cases h; exact (.p _)
         ·apply iU h <;> intro h
          ·cases h; exact (.p _)
          ·refine cP h Zw (.cons q4 .nil) fun v20 h => ?_
           cases h; exact (.p _)
        ·apply iU h <;> intro h
         ·apply iU h <;> intro h
          ·cases h; exact (.p _)
          ·apply iU h <;> intro h
           ·cases h; exact (.p _)
           ·refine cP h Zw (.cons q4 .nil) fun v25 h => ?_
            cases h; exact (.p _)
         ·apply iU h <;> intro h
          ·cases h; exact (.p _)
          ·refine cP h Zw (.cons q4 .nil) fun v28 h => ?_
           cases h; exact (.p _)
    ·apply iU h <;> intro h
     ·cases h; exact (.p _)
     ·refine cP h Wj p1 fun v31 h => ?_
      apply iU h <;> intro h
      ·apply iU h <;> intro h
       ·cases h; exact (.p _)
       ·cases h; exact (.p _)
      ·apply iU h <;> intro h
       ·apply iU h <;> intro h
        ·cases h; exact (.p _)
        ·apply iU h <;> intro h
         ·cases h; exact (.p _)
         ·refine cP h Zw (.cons q4 .nil) fun v38 h => ?_
          cases h; exact (.p _)
       ·apply iU h <;> intro h
        ·apply iU h <;> intro h
         ·cases h; exact (.p _)
         ·apply iU h <;> intro h
          ·cases h; exact (.p _)
          ·refine cP h Zw (.cons q4 .nil) fun v43 h => ?_
           cases h; exact (.p _)
        ·apply iU h <;> intro h
         ·cases h; exact (.p _)
         ·refine cP h Zw (.cons q4 .nil) fun v46 h => ?_
          cases h; exact (.p _)
def U2 (N : Nat) (code : Int) (s_1 : List UInt8) : Option (Q0 × Int × Int) :=
 (W9 N code).bind fun v1 =>
 cond (!v1.2)
 (some ((⟨0, 0, [], []⟩ : Q0), 0, 8))
 (cond v1.1.Items
 (some ((⟨0, 0, [], []⟩ : Q0), 0, 8))
 (cond v1.1.Sized
 ((Z0 N (⟨s_1, 0, 0⟩ : Q1) v1.1.Width).bind fun v6 =>
 (Qu N v6.2).bind fun v8 =>
 cond (Qc .gtr v6.1 (IntKind.wrap .u64 v8.1))
 (some ((⟨0, 0, [], []⟩ : Q0), 0, 3))
 ((Qh N v8.2 (IntKind.wrap .i64 v6.1)).bind fun v11 =>
 (Qq N v11.2).bind fun v13 =>
 cond (Qc .neq v13.1 0)
 ((Qq N v13.2).bind fun v16 =>
 some ((⟨0, 0, [], []⟩ : Q0), 0, v16.1))
 ((Yc N (⟨v1.1.Kind, 0, v11.1, []⟩ : Q0)).bind fun v18 =>
 cond (Qc .eql v18 0)
 ((Qz N v13.2).bind fun v21 =>
 some ((⟨v1.1.Kind, 0, v11.1, []⟩ : Q0), v21.1, 0))
 (cond (Qc .eql v18 2)
 (some ((⟨0, 0, [], []⟩ : Q0), 0, 5))
 (some ((⟨0, 0, [], []⟩ : Q0), 0, v18))))))
 (cond (Qc .eql v1.1.Width 16)
 ((Qh N (⟨s_1, 0, 0⟩ : Q1) 16).bind fun v25 =>
 (Qq N v25.2).bind fun v27 =>
 cond (Qc .neq v27.1 0)
 ((Qq N v27.2).bind fun v30 =>
 some ((⟨0, 0, [], []⟩ : Q0), 0, v30.1))
 ((Yc N (⟨v1.1.Kind, 0, v25.1, []⟩ : Q0)).bind fun v32 =>
 cond (Qc .eql v32 0)
 ((Qz N v27.2).bind fun v35 =>
 some ((⟨v1.1.Kind, 0, v25.1, []⟩ : Q0), v35.1, 0))
 (cond (Qc .eql v32 2)
 (some ((⟨0, 0, [], []⟩ : Q0), 0, 5))
 (some ((⟨0, 0, [], []⟩ : Q0), 0, v32)))))
 (cond (Qc .eql v1.1.Code 65)
 ((Qq N (⟨s_1, 0, 0⟩ : Q1)).bind fun v39 =>
 cond (Qc .neq v39.1 0)
 ((Qq N v39.2).bind fun v42 =>
 some ((⟨0, 0, [], []⟩ : Q0), 0, v42.1))
 ((Yc N (⟨v1.1.Kind, 1, [], []⟩ : Q0)).bind fun v44 =>
 cond (Qc .eql v44 0)
 ((Qz N v39.2).bind fun v47 =>
 some ((⟨v1.1.Kind, 1, [], []⟩ : Q0), v47.1, 0))
 (cond (Qc .eql v44 2)
 (some ((⟨0, 0, [], []⟩ : Q0), 0, 5))
 (some ((⟨0, 0, [], []⟩ : Q0), 0, v44)))))
 ((Z0 N (⟨s_1, 0, 0⟩ : Q1) v1.1.Width).bind fun v50 =>
 (Wx N v1.1 v50.1).bind fun v52 =>
 (Qq N v50.2).bind fun v54 =>
 cond (Qc .neq v54.1 0)
 ((Qq N v54.2).bind fun v57 =>
 some ((⟨0, 0, [], []⟩ : Q0), 0, v57.1))
 ((Yc N (⟨v1.1.Kind, v52, [], []⟩ : Q0)).bind fun v59 =>
 cond (Qc .eql v59 0)
 ((Qz N v54.2).bind fun v62 =>
 some ((⟨v1.1.Kind, v52, [], []⟩ : Q0), v62.1, 0))
 (cond (Qc .eql v59 2)
 (some ((⟨0, 0, [], []⟩ : Q0), 0, 5))
 (some ((⟨0, 0, [], []⟩ : Q0), 0, v59)))))))))
theorem Q0r {N} {code} {s_1} {r} (h : U2 N code s_1 = some r) : Yr Tryd.prog G1 47 [.int .i64 code, .str s_1] (.tuple [.agg (Q0.cells r.1), .int .i64 r.2.1, .int .i64 r.2.2]) := by
 refine Qe k47 ?_
 unfold U2 at h
 rw [cX] at h
 refine cP h Xn p1 fun v1 h => ?_
 apply iU h <;> intro h
 ·obtain rfl := Qb h; exact (Frz.tuple' (.cons q4n p2))
 ·apply iU h <;> intro h
  ·obtain rfl := Qb h; exact (Frz.tuple' (.cons q4n p2))
  ·refine Ze k67 ?_
   apply iU h <;> intro h
   ·refine cM h Z8 rfl p1 fun v6 h => ?_
    refine cM h Qw rfl p0 fun v8 h => ?_
    apply iU h <;> intro h
    ·obtain rfl := Qb h; exact (Frz.tuple' (.cons q4n p2))
    ·refine cM h Qg rfl p1 fun v11 h => ?_
     refine cM h Qo rfl p0 fun v13 h => ?_
     apply iU h <;> intro h
     ·refine cM h Qo rfl p0 fun v16 h => ?_
      obtain rfl := Qb h; exact (Frz.tuple' (.cons q4n p2))
     ·refine cP h Yn (.cons q4n .nil) fun v18 h => ?_
      apply iU h <;> intro h
      ·refine Q7 ?_
       refine dM h Qy rfl p0 fun v21 h => ?_
       obtain rfl := Qb h; exact (Frz.tuple' (.cons q4n p2))
      ·apply iU h <;> intro h
       ·obtain rfl := Qb h; exact (Frz.tuple' (.cons q4n p2))
       ·obtain rfl := Qb h; exact (Frz.tuple' (.cons q4n p2))
   ·apply iU h <;> intro h
    ·refine cM h Qg rfl p1 fun v25 h => ?_
     refine cM h Qo rfl p0 fun v27 h => ?_
     apply iU h <;> intro h
     ·refine cM h Qo rfl p0 fun v30 h => ?_
      obtain rfl := Qb h; exact (Frz.tuple' (.cons q4n p2))
     ·refine cP h Yn (.cons q4n .nil) fun v32 h => ?_
      apply iU h <;> intro h
      ·refine Q7 ?_
       refine dM h Qy rfl p0 fun v35 h => ?_
       obtain rfl := Qb h; exact (Frz.tuple' (.cons q4n p2))
      ·apply iU h <;> intro h
       ·obtain rfl := Qb h; exact (Frz.tuple' (.cons q4n p2))
       ·obtain rfl := Qb h; exact (Frz.tuple' (.cons q4n p2))
    ·apply iU h <;> intro h
     ·refine cM h Qo rfl p0 fun v39 h => ?_
      apply iU h <;> intro h
      ·refine cM h Qo rfl p0 fun v42 h => ?_
       obtain rfl := Qb h; exact (Frz.tuple' (.cons q4n p2))
      ·refine cP h Yn (.cons q4n .nil) fun v44 h => ?_
       apply iU h <;> intro h
       ·refine Q7 ?_
        refine dM h Qy rfl p0 fun v47 h => ?_
        obtain rfl := Qb h; exact (Frz.tuple' (.cons q4n p2))
       ·apply iU h <;> intro h
        ·obtain rfl := Qb h; exact (Frz.tuple' (.cons q4n p2))
        ·obtain rfl := Qb h; exact (Frz.tuple' (.cons q4n p2))
     ·refine Q7 ?_
      refine dM h Z8 rfl p1 fun v50 h => ?_
      refine cD h Gh (.cons (Frz.agg' p5) p1) fun v52 h => ?_
      refine cM h Qo rfl p0 fun v54 h => ?_
      apply iU h <;> intro h
      ·refine cM h Qo rfl p0 fun v57 h => ?_
       obtain rfl := Qb h; exact (Frz.tuple' (.cons q4n p2))
      ·refine cP h Yn (.cons q4n .nil) fun v59 h => ?_
       apply iU h <;> intro h
       ·refine Q7 ?_
        refine dM h Qy rfl p0 fun v62 h => ?_
        obtain rfl := Qb h; exact (Frz.tuple' (.cons q4n p2))
       ·apply iU h <;> intro h
        ·obtain rfl := Qb h; exact (Frz.tuple' (.cons q4n p2))
        ·obtain rfl := Qb h; exact (Frz.tuple' (.cons q4n p2))
end
end
end Go.Av
