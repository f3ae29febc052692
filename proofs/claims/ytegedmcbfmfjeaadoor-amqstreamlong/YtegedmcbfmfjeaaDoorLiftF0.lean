/- The law. Part of a proof of a given statement: for every input the law returns true and the arguments read as before; no condition beyond the given row. -/
import Derived.Test.YtegedmcbfmfjeaaDoorLiftTy
import Derived.Test.YtegedmcbfmfjeaaDoorChks
import Derived.Test.YtegedmcbfmfjeaaDoorSeat1
import Derived.Test.YtegedmcbfmfjeaaDoorLiftG
import Derived.Test.YtegedmcbfmfjeaaDoorMans
namespace Go.Av
noncomputable section
open Go.Proofs
set_option maxRecDepth 100000
set_option maxHeartbeats 4000000
attribute [local irreducible] X4 Y4 Q2l Q2j Qcm Qff Q50
section
def Y1 (_N : Nat) (most : Int) : Option (Bool) :=
 cond (Qe .geq most 0)
 (some (Qe .leq most 32))
 (some false)
theorem Wt {N} {most} {r} (h : Y1 N most = some r) : Xw Tryd.prog G1 34 [.int .i64 most] (.bool r) := by
 refine Qq k34 ?_
 unfold Y1 at h
 rw [cX] at h
 apply iU h <;> intro h
 ·cases h; exact (.p _)
 ·cases h; exact (.p _)
def Qs (_N : Nat) (c : Q1) : Option ((List UInt8) × Q1) :=
 cond (decide (0 ≤ c.at')) (cond (Nat.ble c.at'.toNat c.text.length && Nat.ble c.text.length c.text.length) (some (((c.text.take c.text.length).drop c.at'.toNat), c)) none) none
theorem Zc {N} {c} {r} (h : Qs N c = some r) : Q90 Tryd.prog G1 89 (Q1.cells c) [] (.str r.1) (Q1.cells r.2) := by
 refine Xy k89 ?_
 unfold Qs at h
 refine Q9 ?_
 refine kU h fun h => ?_
 refine kU h fun h => ?_
 obtain rfl := Qh h; exact ⟨_, _, rfl, p3, (.p _)⟩
def Yk (_N : Nat) (c : Q1) : Option ((Bool) × Q1) :=
 some ((Qe .eql c.err 0), c)
theorem Uv {N} {c} {r} (h : Yk N c = some r) : Q90 Tryd.prog G1 90 (Q1.cells c) [] (.bool r.1) (Q1.cells r.2) := by
 refine Xy k90 ?_
 unfold Yk at h
 rw [cX] at h
 obtain rfl := Qh h; exact ⟨_, _, rfl, p3, (.p _)⟩
def Xl (_N : Nat) (c : Q1) (n_1 : Int) : Option ((Bool) × Q1) :=
 cond (Qe .geq n_1 0)
 (some ((Qe .leq n_1 (IntKind.wrap .i64 ((c.text.length : Int) - c.at'))), c))
 (some (false, c))
theorem Jq {N} {c} {n_1} {r} (h : Xl N c n_1 = some r) : Q90 Tryd.prog G1 91 (Q1.cells c) [.int .i64 n_1] (.bool r.1) (Q1.cells r.2) := by
 refine Xy k91 ?_
 unfold Xl at h
 rw [cX] at h
 refine Q9 ?_
 apply iU h <;> intro h
 ·obtain rfl := Qh h; exact ⟨_, _, rfl, p3, (.p _)⟩
 ·obtain rfl := Qh h; exact ⟨_, _, rfl, p3, (.p _)⟩
def Qg (N : Nat) (c : Q1) (n_1 : Int) : Option ((List UInt8) × Q1) :=
 (Yk N c).bind fun v1 =>
 cond (!v1.1)
 (some ([], v1.2))
 ((Xl N v1.2 n_1).bind fun v4 =>
 cond (!v4.1)
 (some ([], (⟨v4.2.text, v4.2.at', 3⟩ : Q1)))
 (cond (decide (0 ≤ v4.2.at')) (cond (decide (0 ≤ (IntKind.wrap .i64 (v4.2.at' + n_1)))) (cond (Nat.ble v4.2.at'.toNat ((IntKind.wrap .i64 (v4.2.at' + n_1)).toNat) && Nat.ble ((IntKind.wrap .i64 (v4.2.at' + n_1)).toNat) v4.2.text.length) (some (((v4.2.text.take ((IntKind.wrap .i64 (v4.2.at' + n_1)).toNat)).drop v4.2.at'.toNat), (⟨v4.2.text, (IntKind.wrap .i64 (v4.2.at' + n_1)), v4.2.err⟩ : Q1))) none) none) none))
theorem Qr {N} {c} {n_1} {r} (h : Qg N c n_1 = some r) : Q90 Tryd.prog G1 70 (Q1.cells c) [.int .i64 n_1] (.str r.1) (Q1.cells r.2) := by
 refine Xy k70 ?_
 unfold Qg at h
 refine cM h Uv rfl p0 fun v1 h => ?_
 apply iU h <;> intro h
 ·obtain rfl := Qh h; exact ⟨_, _, rfl, p3, (.p _)⟩
 ·refine cM h Jq rfl p1 fun v4 h => ?_
  apply iU h <;> intro h
  ·obtain rfl := Qh h; exact ⟨_, _, rfl, p3, (.p _)⟩
  ·refine Q9 ?_
   refine kU h fun h => ?_
   refine kU h fun h => ?_
   refine kU h fun h => ?_
   obtain rfl := Qh h; exact ⟨_, _, rfl, p3, (.p _)⟩
def Qj (_N : Nat) (c : Q1) : Option ((Int) × Q1) :=
 some (c.at', c)
theorem Zd {N} {c} {r} (h : Qj N c = some r) : Q90 Tryd.prog G1 74 (Q1.cells c) [] (.int .i64 r.1) (Q1.cells r.2) := by
 refine Xy k74 ?_
 unfold Qj at h
 obtain rfl := Qh h; exact ⟨_, _, rfl, p3, (.p _)⟩
def V2 (N : Nat) (s_0 : List UInt8) : Nat → Int → Int → Option (Int)
 | 0, _, _ => none
 | n + 1, n12, s13 =>
  cond (Qe .lss s13 (((s_0.take s_0.length).drop ((IntKind.wrap .i64 ((s_0.length : Int) - 8)).toNat)).length : Int))
  ((idx ((s_0.take s_0.length).drop ((IntKind.wrap .i64 ((s_0.length : Int) - 8)).toNat)) s13).bind fun b15 =>
  V2 N s_0 n (orI .u64 (Q1e .u64 n12 8) (IntKind.wrap .u64 (b15.toNat : Int))) (IntKind.wrap .i64 (s13 + 1)))
  (some n12)
def Xh (N : Nat) (s_0 : List UInt8) : Nat → Int → Int → Option (Int)
 | 0, _, _ => none
 | n + 1, n25, s26 =>
  cond (Qe .lss s26 (s_0.length : Int))
  ((idx s_0 s26).bind fun b28 =>
  Xh N s_0 n (orI .u64 (Q1e .u64 n25 8) (IntKind.wrap .u64 (b28.toNat : Int))) (IntKind.wrap .i64 (s26 + 1)))
  (some n25)
def Wg (N : Nat) (s_0 : List UInt8) : Option (Int) :=
 cond (Qe .gtr (s_0.length : Int) 8)
 (cond (decide (0 ≤ (IntKind.wrap .i64 ((s_0.length : Int) - 8)))) (cond (Nat.ble (IntKind.wrap .i64 ((s_0.length : Int) - 8)).toNat s_0.length && Nat.ble s_0.length s_0.length) (V2 N s_0 N 0 0) none) none)
 (Xh N s_0 N 0 0)
theorem Ud {N} {s_0} {r} (h : Wg N s_0 = some r) : Xw Tryd.prog G1 51 [.str s_0] (.int .u64 r) := by
 refine Qq k51 ?_
 unfold Wg at h
 rw [cX] at h
 apply iU h <;> intro h
 ·refine kU h fun h => ?_
  refine kU h fun h => ?_
  refine lpC (τ := Int × Int) (fun ⟨n12, s13⟩ => (.p (.str ((s_0.take s_0.length).drop ((IntKind.wrap .i64 ((s_0.length : Int) - 8)).toNat))) :: .any :: .any :: iW n12 :: a8 (a2 (.p (.int .i64 (((s_0.take s_0.length).drop ((IntKind.wrap .i64 ((s_0.length : Int) - 8)).toNat)).length : Int)) :: iI s13 :: a8 (a2 (.any :: [])))) : List AV)) (fun ⟨_, _⟩ => ([] : List AObj)) (fun n0 ⟨n12, s13⟩ => V2 N s_0 n0 n12 s13) (0, 0) h (fun i => i) ⟨(rE rfl <| rW <| rE rfl <| rX <| rW <| rE rfl <| rE rfl <| rX <| rW <| rA <| rN), (hN), rfl, rfl, (roN)⟩ fun n0 ⟨n12, s13⟩ h => ?_
  simp only [V2] at h
  rw [cX] at h
  apply iU h <;> intro h
  ·refine xB h fun b15 h => ?_
   show Exists _
   exact ⟨(n0, (orI .u64 (Q1e .u64 n12 8) (IntKind.wrap .u64 (b15.toNat : Int))), (IntKind.wrap .i64 (s13 + 1))), h, Nat.lt_succ_self _, (fun i => i), ⟨(rE rfl <| rW <| rE rfl <| rX <| rW <| rE rfl <| rE rfl <| rX <| rW <| rA <| rN), (hN), rfl, rfl, (roN)⟩⟩
  ·cases h; exact (.p _)
 ·refine lpC (τ := Int × Int) (fun ⟨n25, s26⟩ => (iS s_0 :: .any :: .any :: iW n25 :: a8 (a2 (iI (s_0.length : Int) :: iI s26 :: a8 (a2 (.any :: [])))) : List AV)) (fun ⟨_, _⟩ => ([] : List AObj)) (fun n1 ⟨n25, s26⟩ => Xh N s_0 n1 n25 s26) (0, 0) h (fun i => i) ⟨(rE rfl <| rW <| rE rfl <| rX <| rW <| rE rfl <| rE rfl <| rX <| rW <| rA <| rN), (hN), rfl, rfl, (roN)⟩ fun n1 ⟨n25, s26⟩ h => ?_
  simp only [Xh] at h
  rw [cX] at h
  apply iU h <;> intro h
  ·refine xB h fun b28 h => ?_
   show Exists _
   exact ⟨(n1, (orI .u64 (Q1e .u64 n25 8) (IntKind.wrap .u64 (b28.toNat : Int))), (IntKind.wrap .i64 (s26 + 1))), h, Nat.lt_succ_self _, (fun i => i), ⟨(rE rfl <| rW <| rE rfl <| rX <| rW <| rE rfl <| rE rfl <| rX <| rW <| rA <| rN), (hN), rfl, rfl, (roN)⟩⟩
  ·cases h; exact (.p _)
def Qn (N : Nat) (c : Q1) (size : Int) : Option ((Int) × Q1) :=
 (Qg N c size).bind fun v1 =>
 (Wg N v1.1).bind fun v3 =>
 some (v3, v1.2)
theorem Zo {N} {c} {size} {r} (h : Qn N c size = some r) : Q90 Tryd.prog G1 68 (Q1.cells c) [.int .i64 size] (.int .u64 r.1) (Q1.cells r.2) := by
 refine Xy k68 ?_
 unfold Qn at h
 refine cM h Qr rfl p1 fun v1 h => ?_
 refine cP h Ud p1 fun v3 h => ?_
 obtain rfl := Qh h; exact ⟨_, _, rfl, p3, (.p _)⟩
def Qt (N : Nat) (c : Q1) : Option ((Int) × Q1) :=
 (Qs N c).bind fun v1 =>
 some ((v1.1.length : Int), v1.2)
theorem Zb {N} {c} {r} (h : Qt N c = some r) : Q90 Tryd.prog G1 69 (Q1.cells c) [] (.int .i64 r.1) (Q1.cells r.2) := by
 refine Xy k69 ?_
 unfold Qt at h
 refine cM h Zc rfl p0 fun v1 h => ?_
 obtain rfl := Qh h; exact ⟨_, _, rfl, p3, (.p _)⟩
def Qa (_N : Nat) (c : Q1) : Option ((Int) × Q1) :=
 some (c.err, c)
theorem Z3 {N} {c} {r} (h : Qa N c = some r) : Q90 Tryd.prog G1 72 (Q1.cells c) [] (.int .i64 r.1) (Q1.cells r.2) := by
 refine Xy k72 ?_
 unfold Qa at h
 obtain rfl := Qh h; exact ⟨_, _, rfl, p3, (.p _)⟩
def Zg (_N : Nat) (v : Q0) : Option (Bool) :=
 cond (Qe .eql v.Kind 11)
 (cond (Qe .eql (Q4q .u64 (U7 .u64 v.N' 23) 255) 255)
 (some (Qe .neq (Q1e .u64 v.N' 41) 0))
 (some false))
 (cond (Qe .eql v.Kind 12)
 (cond (Qe .eql (Q4q .u64 (U7 .u64 v.N' 52) 2047) 2047)
 (some (Qe .neq (Q1e .u64 v.N' 12) 0))
 (some false))
 (some false))
theorem Wx {N} {v} {r} (h : Zg N v = some r) : Xw Tryd.prog G1 107 [.agg (Q0.cells v)] (.bool r) := by
 refine Qq Qmd ?_
 unfold Zg at h
 rw [cX] at h
 apply iU h <;> intro h
 ·apply iU h <;> intro h
  ·cases h; exact (.p _)
  ·cases h; exact (.p _)
 ·apply iU h <;> intro h
  ·apply iU h <;> intro h
   ·cases h; exact (.p _)
   ·cases h; exact (.p _)
  ·cases h; exact (.p _)
def Y5 (rz : Q0 → Q0 → Option (Bool)) (N : Nat) (a : Q0) (b : Q0) : Nat → Int → Option (Bool)
 | 0, _ => none
 | n + 1, s28 =>
  cond (Qe .lss s28 ((Q0.rows a.Items).length : Int))
  ((idx a.Items s28).bind fun y30 =>
  (idx b.Items s28).bind fun y32 =>
  (rz y30 y32).bind fun v34 =>
  cond (!v34)
  (some false)
  (Y5 rz N a b n (IntKind.wrap .i64 (s28 + 1))))
  (some true)
def Y6 (rz : Q0 → Q0 → Option (Bool)) (N : Nat) (a : Q0) (b : Q0) : Nat → Int → Option (Bool)
 | 0, _ => none
 | n + 1, s54 =>
  cond (Qe .lss s54 ((Q0.rows a.Items).length : Int))
  ((idx a.Items s54).bind fun y56 =>
  (idx b.Items s54).bind fun y58 =>
  (rz y56 y58).bind fun v60 =>
  cond (!v60)
  (some false)
  (Y6 rz N a b n (IntKind.wrap .i64 (s54 + 1))))
  (some true)
def We (rz : Q0 → Q0 → Option (Bool)) (N : Nat) (a : Q0) (b : Q0) : Option (Bool) :=
 cond (Qe .neq a.Kind b.Kind)
 (some false)
 (cond (Q7c .neq a.Text b.Text)
 (some false)
 (cond (Qe .neq ((Q0.rows a.Items).length : Int) ((Q0.rows b.Items).length : Int))
 (some false)
 (cond (Qe .neq a.N' b.N')
 ((Zg N a).bind fun v5 =>
 cond v5
 ((Zg N b).bind fun v8 =>
 cond (!v8)
 (some false)
 (Y5 rz N a b N 0))
 (some false))
 (Y6 rz N a b N 0))))
theorem Gt {rz : Q0 → Q0 → Option (Bool)} (hy1 : ∀ {a} {b} {r}, rz a b = some r → Xw Tryd.prog G1 97 [.agg (Q0.cells a), .agg (Q0.cells b)] (.bool r)) {N} {a} {b} {r} (h : We rz N a b = some r) : Xw Tryd.prog G1 97 [.agg (Q0.cells a), .agg (Q0.cells b)] (.bool r) := by
 refine Qq k97 ?_
 unfold We at h
 rw [cX, cY] at h
 apply iU h <;> intro h
 ·cases h; exact (.p _)
 ·apply iU h <;> intro h
  ·cases h; exact (.p _)
  ·apply iU h <;> intro h
   ·cases h; exact (.p _)
   ·apply iU h <;> intro h
    ·refine cP h Wx (.cons q4 .nil) fun v5 h => ?_
     apply iU h <;> intro h
     ·refine cP h Wx (.cons q4 .nil) fun v8 h => ?_
      apply iU h <;> intro h
      ·cases h; exact (.p _)
      ·refine lpC (τ := Int) (fun s28 => (.any :: .any :: .ptr 0 0 :: .ptr 1 0 :: a16 (a16 (a4 (a2 (.any :: iI ((Q0.rows a.Items).length : Int) :: iI s28 :: a8 (a4 (a2 (.any :: []))))))) : List AV)) (fun _ => (.cells (iI a.Kind :: iW a.N' :: iS a.Text :: .p (.slice 4 (Q0.rows a.Items)) :: []) :: .cells (iI b.Kind :: iW b.N' :: iS b.Text :: .p (.slice 4 (Q0.rows b.Items)) :: []) :: [] : List AObj)) (fun n0 s28 => Y5 rz N a b n0 s28) (0) h (fun i => i) ⟨(rW <| rE rfl <| rE rfl <| rX <| rX <| rX <| rX <| rV <| rW <| rA <| rE rfl <| rE rfl <| rX <| rV <| rW <| rA <| rN), (hE rfl <| hE rfl <| hN), rfl, rfl, (roE rfl <| roE rfl <| roN)⟩ fun n0 s28 h => ?_
       simp only [Y5] at h
       rw [cX] at h
       apply iU h <;> intro h
       ·refine Q9 ?_
        refine Q0.xR h fun y30 h => ?_
        refine Q0.xR h fun y32 h => ?_
        refine cD h hy1 (.cons q4 (.cons q4 .nil)) fun v34 h => ?_
        apply iU h <;> intro h
        ·cases h; exact (.p _)
        ·show Exists _
         exact ⟨(n0, (IntKind.wrap .i64 (s28 + 1))), h, Nat.lt_succ_self _, (fun i => i), ⟨(rW <| rE rfl <| rE rfl <| rX <| rX <| rX <| rX <| rV <| rW <| rA <| rE rfl <| rE rfl <| rX <| rV <| rW <| rA <| rN), (hE rfl <| hE rfl <| hN), rfl, rfl, (roE rfl <| roE rfl <| roN)⟩⟩
       ·cases h; exact (.p _)
     ·cases h; exact (.p _)
    ·refine lpC (τ := Int) (fun s54 => (.any :: .any :: .ptr 0 0 :: .ptr 1 0 :: a16 (a16 (a4 (a2 (.any :: iI ((Q0.rows a.Items).length : Int) :: iI s54 :: a8 (a4 (a2 (.any :: []))))))) : List AV)) (fun _ => (.cells (iI a.Kind :: iW a.N' :: iS a.Text :: .p (.slice 4 (Q0.rows a.Items)) :: []) :: .cells (iI b.Kind :: iW b.N' :: iS b.Text :: .p (.slice 4 (Q0.rows b.Items)) :: []) :: [] : List AObj)) (fun n1 s54 => Y6 rz N a b n1 s54) (0) h (fun i => i) ⟨(rW <| rE rfl <| rE rfl <| rX <| rX <| rX <| rX <| rV <| rW <| rA <| rE rfl <| rE rfl <| rX <| rV <| rW <| rA <| rN), (hE rfl <| hE rfl <| hN), rfl, rfl, (roE rfl <| roE rfl <| roN)⟩ fun n1 s54 h => ?_
     simp only [Y6] at h
     rw [cX] at h
     apply iU h <;> intro h
     ·refine Q9 ?_
      refine Q0.xR h fun y56 h => ?_
      refine Q0.xR h fun y58 h => ?_
      refine cD h hy1 (.cons q4 (.cons q4 .nil)) fun v60 h => ?_
      apply iU h <;> intro h
      ·cases h; exact (.p _)
      ·show Exists _
       exact ⟨(n1, (IntKind.wrap .i64 (s54 + 1))), h, Nat.lt_succ_self _, (fun i => i), ⟨(rW <| rE rfl <| rE rfl <| rX <| rX <| rX <| rX <| rV <| rW <| rA <| rE rfl <| rE rfl <| rX <| rV <| rW <| rA <| rN), (hE rfl <| hE rfl <| hN), rfl, rfl, (roE rfl <| roE rfl <| roN)⟩⟩
     ·cases h; exact (.p _)
def Yi : Nat → Q0 → Q0 → Option (Bool)
 | 0 => fun _ _ => none
 | N + 1 => We (Yi N) N
theorem Gz {N} {a} {b} {r} (h : Yi N a b = some r) : Xw Tryd.prog G1 97 [.agg (Q0.cells a), .agg (Q0.cells b)] (.bool r) := by
 induction N generalizing a b r with
 | zero => simp [Yi] at h
 | succ N ih => exact Gt (fun h => ih h) h
def Yh (N : Nat) (k0 : Int → Option (Int)) (v : Q0) (i56 : Int) : Nat → Int → Option (Int)
 | 0, _ => none
 | n + 1, k75 =>
  cond (Qe .lss k75 i56)
  ((idx v.Items i56).bind fun y77 =>
  (idx v.Items k75).bind fun y79 =>
  (Yi N y77 y79).bind fun v81 =>
  cond v81
  (some 16)
  (Yh N k0 v i56 n (IntKind.wrap .i64 (k75 + 2))))
  (k0 (IntKind.wrap .i64 (i56 + 2)))
def Zt (N : Nat) (v : Q0) : Nat → Int → Option (Int)
 | 0, _ => none
 | n + 1, i56 =>
  cond (Qe .lss i56 ((Q0.rows v.Items).length : Int))
  (Yh N (Zt N v n) v i56 N 0)
  (some 0)
def Y9 (N : Nat) (v : Q0) : Option (Int) :=
 cond (Qe .neq v.Kind 23)
 (some 0)
 (Zt N v N 2)
theorem Xn {N} {v} {r} (h : Y9 N v = some r) : Xw Tryd.prog G1 76 [.agg (Q0.cells v)] (.int .i64 r) := by
 refine Qq k76 ?_
 unfold Y9 at h
 rw [cX] at h
 apply iU h <;> intro h
 ·cases h; exact (.p _)
 ·refine lpC (τ := Int) (fun i56 => (.any :: .ptr 0 0 :: .any :: iI i56 :: a16 (a8 (a2 (.any :: []))) : List AV)) (fun _ => (.cells (iI v.Kind :: iW v.N' :: iS v.Text :: .p (.slice 4 (Q0.rows v.Items)) :: []) :: [] : List AObj)) (fun n0 i56 => Zt N v n0 i56) (2) h (fun i => i) ⟨(rA <| rE rfl <| rA <| rE rfl <| rX <| rX <| rX <| rW <| rA <| rN), (hE rfl <| hN), rfl, rfl, (roE rfl <| roN)⟩ fun n0 i56 h => ?_
  simp only [Zt] at h
  rw [cX] at h
  apply iU h <;> intro h
  ·refine lpC (τ := Int) (fun k75 => (.any :: .ptr 0 0 :: .any :: iI i56 :: iI k75 :: a16 (a8 (a2 ([]))) : List AV)) (fun _ => (.cells (iI v.Kind :: iW v.N' :: iS v.Text :: .p (.slice 4 (Q0.rows v.Items)) :: []) :: [] : List AObj)) (fun n1 k75 => Yh N (Zt N v n0) v i56 n1 k75) (0) h (fun i => i) ⟨(rA <| rE rfl <| rA <| rE rfl <| rE rfl <| rX <| rX <| rX <| rW <| rN), (hE rfl <| hN), rfl, rfl, (roE rfl <| roN)⟩ fun n1 k75 h => ?_
   simp only [Yh] at h
   rw [cX] at h
   apply iU h <;> intro h
   ·refine Q9 ?_
    refine Q0.xR h fun y77 h => ?_
    refine Q0.xR h fun y79 h => ?_
    refine cD h Gz (.cons q4 (.cons q4 .nil)) fun v81 h => ?_
    apply iU h <;> intro h
    ·cases h; exact (.p _)
    ·show Exists _
     exact ⟨(n1, (IntKind.wrap .i64 (k75 + 2))), h, Nat.lt_succ_self _, (fun i => i), ⟨(rA <| rE rfl <| rA <| rE rfl <| rE rfl <| rX <| rX <| rX <| rW <| rN), (hE rfl <| hN), rfl, rfl, (roE rfl <| roN)⟩⟩
   ·show Exists _
    exact ⟨(n0, (IntKind.wrap .i64 (i56 + 2))), h, Nat.lt_succ_self _, (fun i => i), ⟨(rA <| rE rfl <| rA <| rE rfl <| rX <| rX <| rX <| rW <| rA <| rN), (hE rfl <| hN), rfl, rfl, (roE rfl <| roN)⟩⟩
  ·cases h; exact (.p _)
def Xi (_N : Nat) (kind : Int) : Option (Int × Bool) :=
 cond (Qe .eql kind 2)
 (some (1, false))
 (cond (Qe .eql kind 3)
 (some (8, false))
 (cond (Qe .eql kind 4)
 (some (16, false))
 (cond (Qe .eql kind 5)
 (some (32, false))
 (cond (Qe .eql kind 11)
 (some (32, false))
 (cond (Qe .eql kind 13)
 (some (32, false))
 (cond (Qe .eql kind 16)
 (some (32, false))
 (cond (Qe .eql kind 6)
 (some (64, false))
 (cond (Qe .eql kind 12)
 (some (64, false))
 (cond (Qe .eql kind 14)
 (some (64, false))
 (cond (Qe .eql kind 7)
 (some (8, true))
 (cond (Qe .eql kind 8)
 (some (16, true))
 (cond (Qe .eql kind 9)
 (some (32, true))
 (cond (Qe .eql kind 10)
 (some (64, true))
 (cond (Qe .eql kind 17)
 (some (64, true))
 (some (0, false))))))))))))))))
theorem Uj {N} {kind} {r} (h : Xi N kind = some r) : Xw Tryd.prog G1 92 [.int .i64 kind] (.tuple [.int .i64 r.1, .bool r.2]) := by
 refine Qq k92 ?_
 unfold Xi at h
 rw [cX] at h
 apply iU h <;> intro h
 ·obtain rfl := Qh h; exact u2
 ·apply iU h <;> intro h
  ·obtain rfl := Qh h; exact u2
  ·apply iU h <;> intro h
   ·obtain rfl := Qh h; exact u2
   ·refine ifO h (fun hc4 h => ?_) (fun hc4 h => ?_)
    ·refine ifT hc4 ?_
     obtain rfl := Qh h; exact u2
    ·refine ifO h (fun hc5 h => ?_) (fun hc5 h => ?_)
     ·refine ifT hc5 ?_
      obtain rfl := Qh h; exact u2
     ·refine ifO h (fun hc6 h => ?_) (fun hc6 h => ?_)
      ·refine ifT hc6 ?_
       obtain rfl := Qh h; exact u2
      ·apply iU h <;> intro h
       ·obtain rfl := Qh h; exact u2
       ·refine ifO h (fun hc8 h => ?_) (fun hc8 h => ?_)
        ·refine ifT hc8 ?_
         obtain rfl := Qh h; exact u2
        ·refine ifO h (fun hc9 h => ?_) (fun hc9 h => ?_)
         ·refine ifT hc9 ?_
          obtain rfl := Qh h; exact u2
         ·apply iU h <;> intro h
          ·obtain rfl := Qh h; exact u2
          ·apply iU h <;> intro h
           ·obtain rfl := Qh h; exact u2
           ·apply iU h <;> intro h
            ·obtain rfl := Qh h; exact u2
            ·apply iU h <;> intro h
             ·obtain rfl := Qh h; exact u2
             ·refine ifO h (fun hc14 h => ?_) (fun hc14 h => ?_)
              ·refine ifT hc14 ?_
               obtain rfl := Qh h; exact u2
              ·apply iU h <;> intro h
               ·obtain rfl := Qh h; exact u2
               ·obtain rfl := Qh h; exact u2
def Xv (N : Nat) (c : Ye) (n_1 : Int) : Option (Int) :=
 (Xi N c.Kind).bind fun v1 =>
 cond v1.2
 (cond (Qe .gtr c.Width 0)
 (cond (decide (0 ≤ (IntKind.wrap .i64 (64 - (IntKind.wrap .i64 (8 * c.Width)))))) (some (IntKind.wrap .u64 (U7 .i64 (IntKind.wrap .i64 (Q1e .u64 n_1 (IntKind.wrap .i64 (64 - (IntKind.wrap .i64 (8 * c.Width)))))) (IntKind.wrap .i64 (64 - (IntKind.wrap .i64 (8 * c.Width))))))) none)
 (some n_1))
 (some n_1)
theorem Q0l {N} {c} {n_1} {r} (h : Xv N c n_1 = some r) : Xw Tryd.prog G1 71 [.agg (Ye.cells c), .int .u64 n_1] (.int .u64 r) := by
 refine Qq k71 ?_
 unfold Xv at h
 rw [cX] at h
 refine cP h Uj p1 fun v1 h => ?_
 apply iU h <;> intro h
 ·apply iU h <;> intro h
  ·obtain ⟨hk5, h⟩ := Ur h
   refine U2 hk5 ?_
   refine U2 hk5 ?_
   cases h; exact (.p _)
  ·cases h; exact (.p _)
 ·cases h; exact (.p _)
def Qk (_N : Nat) (s_0 : List UInt8) : Option (Int) :=
 (idx s_0 0).bind fun b1 =>
 (idx s_0 1).bind fun b3 =>
 (idx s_0 2).bind fun b5 =>
 (idx s_0 3).bind fun b7 =>
 (idx s_0 4).bind fun b9 =>
 (idx s_0 5).bind fun b11 =>
 (idx s_0 6).bind fun b13 =>
 (idx s_0 7).bind fun b15 =>
 some (orI .u64 (orI .u64 (orI .u64 (orI .u64 (orI .u64 (orI .u64 (orI .u64 (IntKind.wrap .u64 (b1.toNat : Int)) (Q1e .u64 (IntKind.wrap .u64 (b3.toNat : Int)) 8)) (Q1e .u64 (IntKind.wrap .u64 (b5.toNat : Int)) 16)) (Q1e .u64 (IntKind.wrap .u64 (b7.toNat : Int)) 24)) (Q1e .u64 (IntKind.wrap .u64 (b9.toNat : Int)) 32)) (Q1e .u64 (IntKind.wrap .u64 (b11.toNat : Int)) 40)) (Q1e .u64 (IntKind.wrap .u64 (b13.toNat : Int)) 48)) (Q1e .u64 (IntKind.wrap .u64 (b15.toNat : Int)) 56))
theorem Qz {N} {s_0} {r} (h : Qk N s_0 = some r) : Xw Tryd.prog G1 119 [.str s_0] (.int .u64 r) := by
 refine Qq Qmp ?_
 unfold Qk at h
 refine Q9 ?_
 refine xB h fun b1 h => ?_
 refine xB h fun b3 h => ?_
 refine xB h fun b5 h => ?_
 refine xB h fun b7 h => ?_
 refine xB h fun b9 h => ?_
 refine xB h fun b11 h => ?_
 refine xB h fun b13 h => ?_
 refine xB h fun b15 h => ?_
 cases h; exact (.p _)
def Z8 (N : Nat) (k0 : (List UInt8) → Option (Bool)) : Nat → (List UInt8) → Option (Bool)
 | 0, _ => none
 | n + 1, s272 =>
  cond (Qe .gtr (s272.length : Int) 32)
  ((Qk N s272).bind fun v274 =>
  cond (Nat.ble 8 s272.length && Nat.ble s272.length s272.length) ((Qk N ((s272.take s272.length).drop 8)).bind fun v277 =>
  cond (Nat.ble 16 s272.length && Nat.ble s272.length s272.length) ((Qk N ((s272.take s272.length).drop 16)).bind fun v280 =>
  cond (Nat.ble 24 s272.length && Nat.ble s272.length s272.length) ((Qk N ((s272.take s272.length).drop 24)).bind fun v283 =>
  cond (Qe .eql (Q4q .u64 (orI .u64 (orI .u64 v274 v277) (orI .u64 v280 v283)) 9259542123273814144) 0)
  (cond (Nat.ble 32 s272.length && Nat.ble s272.length s272.length) (Z8 N k0 n ((s272.take s272.length).drop 32)) none)
  (k0 s272)) none) none) none)
  (k0 s272)
def Q3 (N : Nat) : Nat → (List UInt8) → Option (Bool)
 | 0, _ => none
 | n + 1, s224 =>
  cond (Qe .gtr (s224.length : Int) 0)
  ((idx s224 0).bind fun b226 =>
  cond (Qe .lss (b226.toNat : Int) 128)
  (cond (Nat.ble 1 s224.length && Nat.ble s224.length s224.length) (cond (Qe .gtr (((s224.take s224.length).drop 1).length : Int) 8)
  ((Qk N ((s224.take s224.length).drop 1)).bind fun v231 =>
  cond (Qe .eql (Q4q .u64 v231 9259542123273814144) 0)
  (cond (Nat.ble 8 (((s224.take s224.length).drop 1).length) && Nat.ble (((s224.take s224.length).drop 1).length) ((s224.take s224.length).drop 1).length) (cond (Qe .gtr (((((s224.take s224.length).drop 1).take (((s224.take s224.length).drop 1).length)).drop 8).length : Int) 16)
  ((Qk N ((((s224.take s224.length).drop 1).take (((s224.take s224.length).drop 1).length)).drop 8)).bind fun v236 =>
  cond (Nat.ble 8 (((((s224.take s224.length).drop 1).take (((s224.take s224.length).drop 1).length)).drop 8).length) && Nat.ble (((((s224.take s224.length).drop 1).take (((s224.take s224.length).drop 1).length)).drop 8).length) ((((s224.take s224.length).drop 1).take (((s224.take s224.length).drop 1).length)).drop 8).length) ((Qk N ((((((s224.take s224.length).drop 1).take (((s224.take s224.length).drop 1).length)).drop 8).take (((((s224.take s224.length).drop 1).take (((s224.take s224.length).drop 1).length)).drop 8).length)).drop 8)).bind fun v239 =>
  cond (Qe .eql (Q4q .u64 (orI .u64 v236 v239) 9259542123273814144) 0)
  (cond (Nat.ble 16 (((((s224.take s224.length).drop 1).take (((s224.take s224.length).drop 1).length)).drop 8).length) && Nat.ble (((((s224.take s224.length).drop 1).take (((s224.take s224.length).drop 1).length)).drop 8).length) ((((s224.take s224.length).drop 1).take (((s224.take s224.length).drop 1).length)).drop 8).length) (Z8 N (Q3 N n) N ((((((s224.take s224.length).drop 1).take (((s224.take s224.length).drop 1).length)).drop 8).take (((((s224.take s224.length).drop 1).take (((s224.take s224.length).drop 1).length)).drop 8).length)).drop 16)) none)
  (Q3 N n ((((s224.take s224.length).drop 1).take (((s224.take s224.length).drop 1).length)).drop 8))) none)
  (Q3 N n ((((s224.take s224.length).drop 1).take (((s224.take s224.length).drop 1).length)).drop 8))) none)
  (Q3 N n ((s224.take s224.length).drop 1)))
  (Q3 N n ((s224.take s224.length).drop 1))) none)
  ((idx gtab0 (b226.toNat : Int)).bind fun y287 =>
  (idx gtab1 (U7 .u8 y287 4)).bind fun y289 =>
  cond (Qe .eql (IntKind.wrap .i64 (Q4q .u8 y287 7)) 2)
  (cond (Qe .lss (s224.length : Int) 2)
  (some false)
  ((idx s224 1).bind fun b293 =>
  cond (Qe .lss (b293.toNat : Int) y289.1)
  (some false)
  ((idx s224 1).bind fun b296 =>
  cond (Qe .lss y289.2 (b296.toNat : Int))
  (some false)
  (cond (Nat.ble 2 s224.length && Nat.ble s224.length s224.length) (Q3 N n ((s224.take s224.length).drop 2)) none))))
  (cond (Qe .eql (IntKind.wrap .i64 (Q4q .u8 y287 7)) 3)
  (cond (Qe .lss (s224.length : Int) 3)
  (some false)
  ((idx s224 1).bind fun b302 =>
  cond (Qe .lss (b302.toNat : Int) y289.1)
  (some false)
  ((idx s224 1).bind fun b305 =>
  cond (Qe .lss y289.2 (b305.toNat : Int))
  (some false)
  ((idx s224 2).bind fun b308 =>
  cond (Qe .lss (b308.toNat : Int) 128)
  (some false)
  ((idx s224 2).bind fun b311 =>
  cond (Qe .lss 191 (b311.toNat : Int))
  (some false)
  (cond (Nat.ble 3 s224.length && Nat.ble s224.length s224.length) (Q3 N n ((s224.take s224.length).drop 3)) none))))))
  (cond (Qe .eql (IntKind.wrap .i64 (Q4q .u8 y287 7)) 4)
  (cond (Qe .lss (s224.length : Int) 4)
  (some false)
  ((idx s224 1).bind fun b317 =>
  cond (Qe .lss (b317.toNat : Int) y289.1)
  (some false)
  ((idx s224 1).bind fun b320 =>
  cond (Qe .lss y289.2 (b320.toNat : Int))
  (some false)
  ((idx s224 2).bind fun b323 =>
  cond (Qe .lss (b323.toNat : Int) 128)
  (some false)
  ((idx s224 2).bind fun b326 =>
  cond (Qe .lss 191 (b326.toNat : Int))
  (some false)
  ((idx s224 3).bind fun b329 =>
  cond (Qe .lss (b329.toNat : Int) 128)
  (some false)
  ((idx s224 3).bind fun b332 =>
  cond (Qe .lss 191 (b332.toNat : Int))
  (some false)
  (cond (Nat.ble 4 s224.length && Nat.ble s224.length s224.length) (Q3 N n ((s224.take s224.length).drop 4)) none))))))))
  (some false)))))
  (some true)
def Y3 (N : Nat) (s_0 : List UInt8) : Option (Bool) :=
 Q3 N N s_0
theorem V8 {N} {s_0} {r} (h : Y3 N s_0 = some r) : Xw Tryd.prog G1 106 [.str s_0] (.bool r) := by
 refine Qq Qmn ?_
 unfold Y3 at h
 refine lpC (τ := (List UInt8)) (fun s224 => (iS s224 :: a16 (a16 (a16 (a16 (a16 (a16 (a16 (a16 (a16 (a16 (a8 ([]))))))))))) : List AV)) (fun _ => ([] : List AObj)) (fun n0 s224 => Q3 N n0 s224) (s_0) h (fun i => i) ⟨(rE rfl <| rX <| rX <| rX <| rX <| rX <| rX <| rX <| rX <| rX <| rX <| rX <| rX <| rX <| rX <| rX <| rX <| rX <| rX <| rX <| rX <| rX <| rN), (hN), rfl, rfl, (roN)⟩ fun n0 s224 h => ?_
 simp only [Q3] at h
 rw [cX] at h
 apply iU h <;> intro h
 ·refine xB h fun b226 h => ?_
  apply iU h <;> intro h
  ·refine kU h fun h => ?_
   apply iU h <;> intro h
   ·refine cP h Qz p1 fun v231 h => ?_
    apply iU h <;> intro h
    ·refine kU h fun h => ?_
     refine Q9 ?_
     apply iU h <;> intro h
     ·refine cD h Qz p1 fun v236 h => ?_
      refine kU h fun h => ?_
      refine cD h Qz p1 fun v239 h => ?_
      apply iU h <;> intro h
      ·refine kU h fun h => ?_
       refine lpC (τ := (List UInt8)) (fun s272 => (iS s272 :: a16 (a16 (a16 (a16 (a16 (a16 (a16 (a16 (a16 (a16 (a8 ([]))))))))))) : List AV)) (fun _ => ([] : List AObj)) (fun n1 s272 => Z8 N (Q3 N n0) n1 s272) (((((((s224.take s224.length).drop 1).take (((s224.take s224.length).drop 1).length)).drop 8).take (((((s224.take s224.length).drop 1).take (((s224.take s224.length).drop 1).length)).drop 8).length)).drop 16)) h (fun i => i) ⟨(rE rfl <| rX <| rX <| rX <| rX <| rX <| rX <| rX <| rX <| rX <| rX <| rX <| rX <| rX <| rX <| rX <| rX <| rX <| rX <| rX <| rX <| rX <| rN), (hN), rfl, rfl, (roN)⟩ fun n1 s272 h => ?_
       simp only [Z8] at h
       rw [cX] at h
       refine Q9 ?_
       apply iU h <;> intro h
       ·refine cD h Qz p1 fun v274 h => ?_
        refine kU h fun h => ?_
        refine cD h Qz p1 fun v277 h => ?_
        refine kU h fun h => ?_
        refine cD h Qz p1 fun v280 h => ?_
        refine kU h fun h => ?_
        refine cD h Qz p1 fun v283 h => ?_
        apply iU h <;> intro h
        ·refine kU h fun h => ?_
         show Exists _
         exact ⟨(n1, ((s272.take s272.length).drop 32)), h, Nat.lt_succ_self _, (fun i => i), ⟨(rE rfl <| rX <| rX <| rX <| rX <| rX <| rX <| rX <| rX <| rX <| rX <| rX <| rX <| rX <| rX <| rX <| rX <| rX <| rX <| rX <| rX <| rX <| rN), (hN), rfl, rfl, (roN)⟩⟩
        ·show Exists _
         exact ⟨(n0, s272), h, Nat.lt_succ_self _, (fun i => i), ⟨(rE rfl <| rX <| rX <| rX <| rX <| rX <| rX <| rX <| rX <| rX <| rX <| rX <| rX <| rX <| rX <| rX <| rX <| rX <| rX <| rX <| rX <| rX <| rN), (hN), rfl, rfl, (roN)⟩⟩
       ·show Exists _
        exact ⟨(n0, s272), h, Nat.lt_succ_self _, (fun i => i), ⟨(rE rfl <| rX <| rX <| rX <| rX <| rX <| rX <| rX <| rX <| rX <| rX <| rX <| rX <| rX <| rX <| rX <| rX <| rX <| rX <| rX <| rX <| rX <| rN), (hN), rfl, rfl, (roN)⟩⟩
      ·show Exists _
       exact ⟨(n0, ((((s224.take s224.length).drop 1).take (((s224.take s224.length).drop 1).length)).drop 8)), h, Nat.lt_succ_self _, (fun i => i), ⟨(rE rfl <| rX <| rX <| rX <| rX <| rX <| rX <| rX <| rX <| rX <| rX <| rX <| rX <| rX <| rX <| rX <| rX <| rX <| rX <| rX <| rX <| rX <| rN), (hN), rfl, rfl, (roN)⟩⟩
     ·show Exists _
      exact ⟨(n0, ((((s224.take s224.length).drop 1).take (((s224.take s224.length).drop 1).length)).drop 8)), h, Nat.lt_succ_self _, (fun i => i), ⟨(rE rfl <| rX <| rX <| rX <| rX <| rX <| rX <| rX <| rX <| rX <| rX <| rX <| rX <| rX <| rX <| rX <| rX <| rX <| rX <| rX <| rX <| rX <| rN), (hN), rfl, rfl, (roN)⟩⟩
    ·show Exists _
     exact ⟨(n0, ((s224.take s224.length).drop 1)), h, Nat.lt_succ_self _, (fun i => i), ⟨(rE rfl <| rX <| rX <| rX <| rX <| rX <| rX <| rX <| rX <| rX <| rX <| rX <| rX <| rX <| rX <| rX <| rX <| rX <| rX <| rX <| rX <| rX <| rN), (hN), rfl, rfl, (roN)⟩⟩
   ·show Exists _
    exact ⟨(n0, ((s224.take s224.length).drop 1)), h, Nat.lt_succ_self _, (fun i => i), ⟨(rE rfl <| rX <| rX <| rX <| rX <| rX <| rX <| rX <| rX <| rX <| rX <| rX <| rX <| rX <| rX <| rX <| rX <| rX <| rX <| rX <| rX <| rX <| rN), (hN), rfl, rfl, (roN)⟩⟩
  ·obtain ⟨y287, hy288, h⟩ := J3 h
   refine U2 (Q96 hy288 Qd3) ?_
   refine Qdm (c := (cI .u8)) (e := 1) (fun _ => rfl) Qft hy288 (off := 0) (by decide) (by first | omega | (simp only [Q4q, orI, Qlf, Q9n, Q1e, U7]; omega)) ?_
   obtain ⟨y289, hy290, h⟩ := J3 h
   refine U2 (Q96 hy290 Qf4) ?_
   refine Qdm (c := cUU) (e := 2) (fun _ => rfl) Qfl hy290 (off := 0) (by decide) (by first | omega | (simp only [Q4q, orI, Qlf, Q9n, Q1e, U7]; omega)) ?_
   apply iU h <;> intro h
   ·refine Q9 ?_
    apply iU h <;> intro h
    ·cases h; exact (.p _)
    ·refine xB h fun b293 h => ?_
     apply iU h <;> intro h
     ·cases h; exact (.p _)
     ·refine xB h fun b296 h => ?_
      apply iU h <;> intro h
      ·cases h; exact (.p _)
      ·refine kU h fun h => ?_
       show Exists _
       exact ⟨(n0, ((s224.take s224.length).drop 2)), h, Nat.lt_succ_self _, (fun i => i), ⟨(rE rfl <| rX <| rX <| rX <| rX <| rX <| rX <| rX <| rX <| rX <| rX <| rX <| rX <| rX <| rX <| rX <| rX <| rX <| rX <| rX <| rX <| rX <| rN), (hN), rfl, rfl, (roN)⟩⟩
   ·apply iU h <;> intro h
    ·refine Q9 ?_
     apply iU h <;> intro h
     ·cases h; exact (.p _)
     ·refine xB h fun b302 h => ?_
      apply iU h <;> intro h
      ·cases h; exact (.p _)
      ·refine xB h fun b305 h => ?_
       apply iU h <;> intro h
       ·cases h; exact (.p _)
       ·refine xB h fun b308 h => ?_
        apply iU h <;> intro h
        ·cases h; exact (.p _)
        ·refine xB h fun b311 h => ?_
         apply iU h <;> intro h
         ·cases h; exact (.p _)
         ·refine kU h fun h => ?_
          show Exists _
          exact ⟨(n0, ((s224.take s224.length).drop 3)), h, Nat.lt_succ_self _, (fun i => i), ⟨(rE rfl <| rX <| rX <| rX <| rX <| rX <| rX <| rX <| rX <| rX <| rX <| rX <| rX <| rX <| rX <| rX <| rX <| rX <| rX <| rX <| rX <| rX <| rN), (hN), rfl, rfl, (roN)⟩⟩
    ·apply iU h <;> intro h
     ·refine Q9 ?_
      apply iU h <;> intro h
      ·cases h; exact (.p _)
      ·refine xB h fun b317 h => ?_
       apply iU h <;> intro h
       ·cases h; exact (.p _)
       ·refine xB h fun b320 h => ?_
        apply iU h <;> intro h
        ·cases h; exact (.p _)
        ·refine xB h fun b323 h => ?_
         apply iU h <;> intro h
         ·cases h; exact (.p _)
         ·refine xB h fun b326 h => ?_
          apply iU h <;> intro h
          ·cases h; exact (.p _)
          ·refine xB h fun b329 h => ?_
           apply iU h <;> intro h
           ·cases h; exact (.p _)
           ·refine xB h fun b332 h => ?_
            apply iU h <;> intro h
            ·cases h; exact (.p _)
            ·refine kU h fun h => ?_
             show Exists _
             exact ⟨(n0, ((s224.take s224.length).drop 4)), h, Nat.lt_succ_self _, (fun i => i), ⟨(rE rfl <| rX <| rX <| rX <| rX <| rX <| rX <| rX <| rX <| rX <| rX <| rX <| rX <| rX <| rX <| rX <| rX <| rX <| rX <| rX <| rX <| rX <| rN), (hN), rfl, rfl, (roN)⟩⟩
     ·cases h; exact (.p _)
 ·cases h; exact (.p _)
def Yq (N : Nat) (v : Q0) : Nat → Int → Option (Int)
 | 0, _ => none
 | n + 1, s15 =>
  cond (Qe .lss s15 (v.Text.length : Int))
  ((idx v.Text s15).bind fun b17 =>
  cond (Qe .geq (b17.toNat : Int) 128)
  (some 6)
  (Yq N v n (IntKind.wrap .i64 (s15 + 1))))
  (some 0)
def Zz (N : Nat) (v : Q0) : Option (Int) :=
 cond (Qe .eql v.Kind 20)
 ((Y3 N v.Text).bind fun v2 =>
 cond (!v2)
 (some 6)
 (some 0))
 (cond (Qe .eql v.Kind 21)
 (Yq N v N 0)
 (some 0))
theorem Yr {N} {v} {r} (h : Zz N v = some r) : Xw Tryd.prog G1 96 [.agg (Q0.cells v)] (.int .i64 r) := by
 refine Qq k96 ?_
 unfold Zz at h
 rw [cX] at h
 apply iU h <;> intro h
 ·refine cP h V8 p1 fun v2 h => ?_
  apply iU h <;> intro h
  ·cases h; exact (.p _)
  ·cases h; exact (.p _)
 ·apply iU h <;> intro h
  ·refine lpC (τ := Int) (fun s15 => (.any :: .ptr 0 0 :: a8 (a4 (a2 (iI (v.Text.length : Int) :: iI s15 :: a8 ([])))) : List AV)) (fun _ => (.cells (iI v.Kind :: iW v.N' :: iS v.Text :: .p (.slice 4 (Q0.rows v.Items)) :: []) :: [] : List AObj)) (fun n0 s15 => Yq N v n0 s15) (0) h (fun i => i) ⟨(rA <| rE rfl <| rX <| rV <| rW <| rE rfl <| rE rfl <| rX <| rN), (hE rfl <| hN), rfl, rfl, (roE rfl <| roN)⟩ fun n0 s15 h => ?_
   simp only [Yq] at h
   rw [cX] at h
   apply iU h <;> intro h
   ·refine xB h fun b17 h => ?_
    apply iU h <;> intro h
    ·cases h; exact (.p _)
    ·show Exists _
     exact ⟨(n0, (IntKind.wrap .i64 (s15 + 1))), h, Nat.lt_succ_self _, (fun i => i), ⟨(rA <| rE rfl <| rX <| rV <| rW <| rE rfl <| rE rfl <| rX <| rN), (hE rfl <| hN), rfl, rfl, (roE rfl <| roN)⟩⟩
   ·cases h; exact (.p _)
  ·cases h; exact (.p _)
def X1 (_N : Nat) (n_0 : Int) (bits : Int) (signed : Bool) : Option (Bool) :=
 cond signed
 (cond (decide (0 ≤ (IntKind.wrap .i64 (bits - 1)))) (cond (Qe .geq (IntKind.wrap .i64 n_0) (Q1e .i64 (-1) (IntKind.wrap .i64 (bits - 1))))
 (some (Qe .leq (IntKind.wrap .i64 n_0) (IntKind.wrap .i64 (0 - (IntKind.wrap .i64 ((Q1e .i64 (-1) (IntKind.wrap .i64 (bits - 1))) + 1))))))
 (some false)) none)
 (cond (Qe .eql bits 64)
 (some true)
 (cond (decide (0 ≤ bits)) (some (Qe .eql (U7 .u64 n_0 bits) 0)) none))
theorem Js {N} {n_0} {bits} {signed} {r} (h : X1 N n_0 bits signed = some r) : Xw Tryd.prog G1 93 [.int .u64 n_0, .int .i64 bits, .bool signed] (.bool r) := by
 refine Qq k93 ?_
 unfold X1 at h
 rw [cX] at h
 apply iU h <;> intro h
 ·refine kU h fun h => ?_
  apply iU h <;> intro h
  ·cases h; exact (.p _)
  ·cases h; exact (.p _)
 ·apply iU h <;> intro h
  ·cases h; exact (.p _)
  ·refine kU h fun h => ?_
   cases h; exact (.p _)
def Yf (_N : Nat) (r_0 : Int) : Option (Bool) :=
 cond (Qe .leq 0 r_0)
 (cond (Qe .lss r_0 55296)
 (some true)
 (cond (Qe .lss 57343 r_0)
 (cond (Qe .leq r_0 1114111)
 (some true)
 (some false))
 (some false)))
 (cond (Qe .lss 57343 r_0)
 (cond (Qe .leq r_0 1114111)
 (some true)
 (some false))
 (some false))
theorem Vq {N} {r_0} {r} (h : Yf N r_0 = some r) : Xw Tryd.prog G1 105 [.int .i32 r_0] (.bool r) := by
 refine Qq Qmr ?_
 unfold Yf at h
 rw [cX] at h
 apply iU h <;> intro h
 ·apply iU h <;> intro h
  ·cases h; exact (.p _)
  ·apply iU h <;> intro h
   ·apply iU h <;> intro h
    ·cases h; exact (.p _)
    ·cases h; exact (.p _)
   ·cases h; exact (.p _)
 ·apply iU h <;> intro h
  ·apply iU h <;> intro h
   ·cases h; exact (.p _)
   ·cases h; exact (.p _)
  ·cases h; exact (.p _)
def Yv (N : Nat) (n_0 : Int) : Option (Bool) :=
 cond (Qe .leq n_0 1114111)
 ((Yf N (IntKind.wrap .i32 n_0)).bind fun v2 =>
 some v2)
 (some false)
theorem Jh {N} {n_0} {r} (h : Yv N n_0 = some r) : Xw Tryd.prog G1 94 [.int .u64 n_0] (.bool r) := by
 refine Qq k94 ?_
 unfold Yv at h
 rw [cX] at h
 apply iU h <;> intro h
 ·refine cP h Vq p1 fun v2 h => ?_
  cases h; exact (.p _)
 ·cases h; exact (.p _)
def Ys (_N : Nat) (kind : Int) : Option (Bool) :=
 cond (Qe .eql kind 15)
 (some true)
 (cond (Qe .eql kind 18)
 (some true)
 (cond (Qe .eql kind 19)
 (some true)
 (cond (Qe .eql kind 20)
 (some true)
 (cond (Qe .eql kind 21)
 (some true)
 (some false)))))
theorem Vd {N} {kind} {r} (h : Ys N kind = some r) : Xw Tryd.prog G1 95 [.int .i64 kind] (.bool r) := by
 refine Qq k95 ?_
 unfold Ys at h
 rw [cX] at h
 refine ifO h (fun hc1 h => ?_) (fun hc1 h => ?_)
 ·refine ifT hc1 ?_
  cases h; exact (.p _)
 ·refine ifO h (fun hc2 h => ?_) (fun hc2 h => ?_)
  ·refine ifT hc2 ?_
   cases h; exact (.p _)
  ·refine ifO h (fun hc3 h => ?_) (fun hc3 h => ?_)
   ·refine ifT hc3 ?_
    cases h; exact (.p _)
   ·refine ifO h (fun hc4 h => ?_) (fun hc4 h => ?_)
    ·refine ifT hc4 ?_
     cases h; exact (.p _)
    ·apply iU h <;> intro h
     ·cases h; exact (.p _)
     ·cases h; exact (.p _)
def Yd (N : Nat) (v : Q0) : Option (Int) :=
 cond (Qe .lss v.Kind 1)
 (some 8)
 (cond (Qe .gtr v.Kind 21)
 (some 8)
 ((Xi N v.Kind).bind fun v3 =>
 (X1 N v.N' v3.1 v3.2).bind fun v5 =>
 cond (!v5)
 (some 2)
 (cond (Qe .eql v.Kind 16)
 ((Yv N v.N').bind fun v9 =>
 cond (!v9)
 (some 2)
 (cond (Qe .neq ((Q0.rows v.Items).length : Int) 0)
 (some 2)
 ((Ys N v.Kind).bind fun v13 =>
 cond (!v13)
 (cond (Q7c .neq v.Text [])
 (some 2)
 (some 0))
 (cond (Qe .eql v.Kind 15)
 (cond (Qe .neq (v.Text.length : Int) 16)
 (some 2)
 (cond (Qe .gtr (v.Text.length : Int) 1048576)
 (some 4)
 ((Zz N v).bind fun v20 =>
 some v20)))
 (cond (Qe .eql v.Kind 18)
 (cond (Qe .neq (v.Text.length : Int) 16)
 (some 2)
 (cond (Qe .gtr (v.Text.length : Int) 1048576)
 (some 4)
 ((Zz N v).bind fun v25 =>
 some v25)))
 (cond (Qe .gtr (v.Text.length : Int) 1048576)
 (some 4)
 ((Zz N v).bind fun v28 =>
 some v28)))))))
 (cond (Qe .neq ((Q0.rows v.Items).length : Int) 0)
 (some 2)
 ((Ys N v.Kind).bind fun v31 =>
 cond (!v31)
 (cond (Q7c .neq v.Text [])
 (some 2)
 (some 0))
 (cond (Qe .eql v.Kind 15)
 (cond (Qe .neq (v.Text.length : Int) 16)
 (some 2)
 (cond (Qe .gtr (v.Text.length : Int) 1048576)
 (some 4)
 ((Zz N v).bind fun v38 =>
 some v38)))
 (cond (Qe .eql v.Kind 18)
 (cond (Qe .neq (v.Text.length : Int) 16)
 (some 2)
 (cond (Qe .gtr (v.Text.length : Int) 1048576)
 (some 4)
 ((Zz N v).bind fun v43 =>
 some v43)))
 (cond (Qe .gtr (v.Text.length : Int) 1048576)
 (some 4)
 ((Zz N v).bind fun v46 =>
 some v46)))))))))
theorem Xk {N} {v} {r} (h : Yd N v = some r) : Xw Tryd.prog G1 73 [.agg (Q0.cells v)] (.int .i64 r) := by
 refine Qq k73 ?_
 unfold Yd at h
 rw [cX, cY] at h
 apply iU h <;> intro h
 ·cases h; exact (.p _)
 ·apply iU h <;> intro h
  ·cases h; exact (.p _)
  ·refine cP h Uj p1 fun v3 h => ?_
   refine cP h Js p3 fun v5 h => ?_
   apply iU h <;> intro h
   ·cases h; exact (.p _)
   ·apply iU h <;> intro h
    ·refine cP h Jh p1 fun v9 h => ?_
     apply iU h <;> intro h
     ·cases h; exact (.p _)
     ·apply iU h <;> intro h
      ·cases h; exact (.p _)
      ·refine cP h Vd p1 fun v13 h => ?_
       apply iU h <;> intro h
       ·apply iU h <;> intro h
        ·cases h; exact (.p _)
        ·cases h; exact (.p _)
       ·apply iU h <;> intro h
        ·apply iU h <;> intro h
         ·cases h; exact (.p _)
         ·apply iU h <;> intro h
          ·cases h; exact (.p _)
          ·refine cP h Yr (.cons q4 .nil) fun v20 h => ?_
           cases h; exact (.p _)
        ·apply iU h <;> intro h
         ·apply iU h <;> intro h
          ·cases h; exact (.p _)
          ·apply iU h <;> intro h
           ·cases h; exact (.p _)
           ·refine cP h Yr (.cons q4 .nil) fun v25 h => ?_
            cases h; exact (.p _)
         ·apply iU h <;> intro h
          ·cases h; exact (.p _)
          ·refine cP h Yr (.cons q4 .nil) fun v28 h => ?_
           cases h; exact (.p _)
    ·apply iU h <;> intro h
     ·cases h; exact (.p _)
     ·refine cP h Vd p1 fun v31 h => ?_
      apply iU h <;> intro h
      ·apply iU h <;> intro h
       ·cases h; exact (.p _)
       ·cases h; exact (.p _)
      ·apply iU h <;> intro h
       ·apply iU h <;> intro h
        ·cases h; exact (.p _)
        ·apply iU h <;> intro h
         ·cases h; exact (.p _)
         ·refine cP h Yr (.cons q4 .nil) fun v38 h => ?_
          cases h; exact (.p _)
       ·apply iU h <;> intro h
        ·apply iU h <;> intro h
         ·cases h; exact (.p _)
         ·apply iU h <;> intro h
          ·cases h; exact (.p _)
          ·refine cP h Yr (.cons q4 .nil) fun v43 h => ?_
           cases h; exact (.p _)
        ·apply iU h <;> intro h
         ·cases h; exact (.p _)
         ·refine cP h Yr (.cons q4 .nil) fun v46 h => ?_
          cases h; exact (.p _)
def Wo (N : Nat) (code : Int) (s_1 : List UInt8) : Option (Q0 × Int × Int) :=
 (Yp N code).bind fun v1 =>
 cond (!v1.2)
 (some ((⟨0, 0, [], []⟩ : Q0), 0, 8))
 (cond v1.1.Items
 (some ((⟨0, 0, [], []⟩ : Q0), 0, 8))
 (cond v1.1.Sized
 ((Qn N (⟨s_1, 0, 0⟩ : Q1) v1.1.Width).bind fun v6 =>
 (Qt N v6.2).bind fun v8 =>
 cond (Qe .gtr v6.1 (IntKind.wrap .u64 v8.1))
 (some ((⟨0, 0, [], []⟩ : Q0), 0, 3))
 ((Qg N v8.2 (IntKind.wrap .i64 v6.1)).bind fun v11 =>
 (Qa N v11.2).bind fun v13 =>
 cond (Qe .neq v13.1 0)
 ((Qa N v13.2).bind fun v16 =>
 some ((⟨0, 0, [], []⟩ : Q0), 0, v16.1))
 ((Yd N (⟨v1.1.Kind, 0, v11.1, []⟩ : Q0)).bind fun v18 =>
 cond (Qe .eql v18 0)
 ((Qj N v13.2).bind fun v21 =>
 some ((⟨v1.1.Kind, 0, v11.1, []⟩ : Q0), v21.1, 0))
 (cond (Qe .eql v18 2)
 (some ((⟨0, 0, [], []⟩ : Q0), 0, 5))
 (some ((⟨0, 0, [], []⟩ : Q0), 0, v18))))))
 (cond (Qe .eql v1.1.Width 16)
 ((Qg N (⟨s_1, 0, 0⟩ : Q1) 16).bind fun v25 =>
 (Qa N v25.2).bind fun v27 =>
 cond (Qe .neq v27.1 0)
 ((Qa N v27.2).bind fun v30 =>
 some ((⟨0, 0, [], []⟩ : Q0), 0, v30.1))
 ((Yd N (⟨v1.1.Kind, 0, v25.1, []⟩ : Q0)).bind fun v32 =>
 cond (Qe .eql v32 0)
 ((Qj N v27.2).bind fun v35 =>
 some ((⟨v1.1.Kind, 0, v25.1, []⟩ : Q0), v35.1, 0))
 (cond (Qe .eql v32 2)
 (some ((⟨0, 0, [], []⟩ : Q0), 0, 5))
 (some ((⟨0, 0, [], []⟩ : Q0), 0, v32)))))
 (cond (Qe .eql v1.1.Code 65)
 ((Qa N (⟨s_1, 0, 0⟩ : Q1)).bind fun v39 =>
 cond (Qe .neq v39.1 0)
 ((Qa N v39.2).bind fun v42 =>
 some ((⟨0, 0, [], []⟩ : Q0), 0, v42.1))
 ((Yd N (⟨v1.1.Kind, 1, [], []⟩ : Q0)).bind fun v44 =>
 cond (Qe .eql v44 0)
 ((Qj N v39.2).bind fun v47 =>
 some ((⟨v1.1.Kind, 1, [], []⟩ : Q0), v47.1, 0))
 (cond (Qe .eql v44 2)
 (some ((⟨0, 0, [], []⟩ : Q0), 0, 5))
 (some ((⟨0, 0, [], []⟩ : Q0), 0, v44)))))
 ((Qn N (⟨s_1, 0, 0⟩ : Q1) v1.1.Width).bind fun v50 =>
 (Xv N v1.1 v50.1).bind fun v52 =>
 (Qa N v50.2).bind fun v54 =>
 cond (Qe .neq v54.1 0)
 ((Qa N v54.2).bind fun v57 =>
 some ((⟨0, 0, [], []⟩ : Q0), 0, v57.1))
 ((Yd N (⟨v1.1.Kind, v52, [], []⟩ : Q0)).bind fun v59 =>
 cond (Qe .eql v59 0)
 ((Qj N v54.2).bind fun v62 =>
 some ((⟨v1.1.Kind, v52, [], []⟩ : Q0), v62.1, 0))
 (cond (Qe .eql v59 2)
 (some ((⟨0, 0, [], []⟩ : Q0), 0, 5))
 (some ((⟨0, 0, [], []⟩ : Q0), 0, v59)))))))))
theorem Q2k {N} {code} {s_1} {r} (h : Wo N code s_1 = some r) : Xw Tryd.prog G1 47 [.int .i64 code, .str s_1] (.tuple [.agg (Q0.cells r.1), .int .i64 r.2.1, .int .i64 r.2.2]) := by
 refine Qq k47 ?_
 unfold Wo at h
 rw [cX] at h
 refine cP h Ws p1 fun v1 h => ?_
 apply iU h <;> intro h
 ·obtain rfl := Qh h; exact (Frz.tuple' (.cons q4n p2))
 ·apply iU h <;> intro h
  ·obtain rfl := Qh h; exact (Frz.tuple' (.cons q4n p2))
  ·refine Xd k67 ?_
   apply iU h <;> intro h
   ·refine cM h Zo rfl p1 fun v6 h => ?_
    refine cM h Zb rfl p0 fun v8 h => ?_
    apply iU h <;> intro h
    ·obtain rfl := Qh h; exact (Frz.tuple' (.cons q4n p2))
    ·refine cM h Qr rfl p1 fun v11 h => ?_
     refine cM h Z3 rfl p0 fun v13 h => ?_
     apply iU h <;> intro h
     ·refine cM h Z3 rfl p0 fun v16 h => ?_
      obtain rfl := Qh h; exact (Frz.tuple' (.cons q4n p2))
     ·refine cP h Xk (.cons q4n .nil) fun v18 h => ?_
      apply iU h <;> intro h
      ·refine Q9 ?_
       refine dM h Zd rfl p0 fun v21 h => ?_
       obtain rfl := Qh h; exact (Frz.tuple' (.cons q4n p2))
      ·apply iU h <;> intro h
       ·obtain rfl := Qh h; exact (Frz.tuple' (.cons q4n p2))
       ·obtain rfl := Qh h; exact (Frz.tuple' (.cons q4n p2))
   ·apply iU h <;> intro h
    ·refine cM h Qr rfl p1 fun v25 h => ?_
     refine cM h Z3 rfl p0 fun v27 h => ?_
     apply iU h <;> intro h
     ·refine cM h Z3 rfl p0 fun v30 h => ?_
      obtain rfl := Qh h; exact (Frz.tuple' (.cons q4n p2))
     ·refine cP h Xk (.cons q4n .nil) fun v32 h => ?_
      apply iU h <;> intro h
      ·refine Q9 ?_
       refine dM h Zd rfl p0 fun v35 h => ?_
       obtain rfl := Qh h; exact (Frz.tuple' (.cons q4n p2))
      ·apply iU h <;> intro h
       ·obtain rfl := Qh h; exact (Frz.tuple' (.cons q4n p2))
       ·obtain rfl := Qh h; exact (Frz.tuple' (.cons q4n p2))
    ·apply iU h <;> intro h
     ·refine cM h Z3 rfl p0 fun v39 h => ?_
      apply iU h <;> intro h
      ·refine cM h Z3 rfl p0 fun v42 h => ?_
       obtain rfl := Qh h; exact (Frz.tuple' (.cons q4n p2))
      ·refine cP h Xk (.cons q4n .nil) fun v44 h => ?_
       apply iU h <;> intro h
       ·refine Q9 ?_
        refine dM h Zd rfl p0 fun v47 h => ?_
        obtain rfl := Qh h; exact (Frz.tuple' (.cons q4n p2))
       ·apply iU h <;> intro h
        ·obtain rfl := Qh h; exact (Frz.tuple' (.cons q4n p2))
        ·obtain rfl := Qh h; exact (Frz.tuple' (.cons q4n p2))
     ·refine Q9 ?_
      refine dM h Zo rfl p1 fun v50 h => ?_
      refine cD h Q0l (.cons (Frz.agg' p5) p1) fun v52 h => ?_
      refine cM h Z3 rfl p0 fun v54 h => ?_
      apply iU h <;> intro h
      ·refine cM h Z3 rfl p0 fun v57 h => ?_
       obtain rfl := Qh h; exact (Frz.tuple' (.cons q4n p2))
      ·refine cP h Xk (.cons q4n .nil) fun v59 h => ?_
       apply iU h <;> intro h
       ·refine Q9 ?_
        refine dM h Zd rfl p0 fun v62 h => ?_
        obtain rfl := Qh h; exact (Frz.tuple' (.cons q4n p2))
       ·apply iU h <;> intro h
        ·obtain rfl := Qh h; exact (Frz.tuple' (.cons q4n p2))
        ·obtain rfl := Qh h; exact (Frz.tuple' (.cons q4n p2))
end
end
end Go.Av
