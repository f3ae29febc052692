/- The law. Part of a proof of a given statement: for every input the law returns true and the arguments read as before; no condition beyond the given row. -/
import Derived.Test.YtegedmcbfmfjeaaDoorLiftTy
import Derived.Test.YtegedmcbfmfjeaaDoorChks
import Derived.Test.YtegedmcbfmfjeaaDoorSeat1
import Derived.Test.YtegedmcbfmfjeaaDoorLiftG
import Derived.Test.YtegedmcbfmfjeaaDoorMans
namespace Go.Av
noncomputable section
open Go.Proofs
set_option maxRecDepth 100000
set_option maxHeartbeats 4000000
attribute [local irreducible] Wy Xb Q5x Q8c Q5 Q66 Qe2
section
def Xd (R_polyglotkit_SameValue : Q0 → Q0 → Option (Bool)) (N : Nat) (a : Q0) (b : Q0) : Nat → Int → Option (Bool)
 | 0, _ => none
 | n + 1, i22 =>
  cond (Q5 .lss i22 ((Q0.rows a.Items).length : Int))
  ((idx a.Items i22).bind fun y24 =>
  (idx b.Items i22).bind fun y26 =>
  (R_polyglotkit_SameValue y24 y26).bind fun v28 =>
  cond (!v28)
  (some false)
  (Xd R_polyglotkit_SameValue N a b n (IntKind.wrap .i64 (i22 + 1))))
  (some true)
def V5 (R_polyglotkit_SameValue : Q0 → Q0 → Option (Bool)) (N : Nat) (a : Q0) (b : Q0) : Option (Bool) :=
 cond (Q5 .neq a.Kind b.Kind)
 (some false)
 (cond (Q5 .neq a.N' b.N')
 (some false)
 (cond (Q66 .neq a.Text b.Text)
 (some false)
 (cond (Q5 .neq ((Q0.rows a.Items).length : Int) ((Q0.rows b.Items).length : Int))
 (some false)
 (Xd R_polyglotkit_SameValue N a b N 0))))
theorem Gq {R_polyglotkit_SameValue : Q0 → Q0 → Option (Bool)} (hR_polyglotkit_SameValue : ∀ {a} {b} {r}, R_polyglotkit_SameValue a b = some r → Y9 Tryd.prog G1 27 [.agg (Q0.cells a), .agg (Q0.cells b)] (.bool r)) {N} {a} {b} {r} (h : V5 R_polyglotkit_SameValue N a b = some r) : Y9 Tryd.prog G1 27 [.agg (Q0.cells a), .agg (Q0.cells b)] (.bool r) := by
 refine Q6 k27 ?_
 unfold V5 at h
 apply iU h <;> intro h
 ·cases h; exact (.p _)
 ·apply iU h <;> intro h
  ·cases h; exact (.p _)
  ·apply iU h <;> intro h
   ·cases h; exact (.p _)
   ·apply iU h <;> intro h
    ·cases h; exact (.p _)
    ·refine lpC (τ := Int) (fun i22 => (.any :: .any :: .ptr 0 0 :: .ptr 1 0 :: .any :: iI i22 :: a16 (a16 (a8 (a4 (a2 (.any :: []))))) : List AV)) (fun _ => (.cells (iI a.Kind :: iW a.N' :: iS a.Text :: .p (.slice 4 (Q0.rows a.Items)) :: []) :: .cells (iI b.Kind :: iW b.N' :: iS b.Text :: .p (.slice 4 (Q0.rows b.Items)) :: []) :: [] : List AObj)) (fun n0 i22 => Xd R_polyglotkit_SameValue N a b n0 i22) (0) h (fun i => i) ⟨(rW <| rE rfl <| rE rfl <| rA <| rE rfl <| rX <| rX <| rX <| rX <| rX <| rV <| rW <| rA <| rN), (hE rfl <| hE rfl <| hN), rfl, rfl, (roE rfl <| roE rfl <| roN)⟩ fun n0 i22 h => ?_
     simp only [Xd] at h
     apply iU h <;> intro h
     ·refine Qd ?_
      refine Q0.xR h fun y24 h => ?_
      refine Q0.xR h fun y26 h => ?_
      refine cD h hR_polyglotkit_SameValue (.cons q4 (.cons q4 .nil)) fun v28 h => ?_
      apply iU h <;> intro h
      ·cases h; exact (.p _)
      ·show Exists _
       exact ⟨(n0, (IntKind.wrap .i64 (i22 + 1))), h, Nat.lt_succ_self _, (fun i => i), ⟨(rW <| rE rfl <| rE rfl <| rA <| rE rfl <| rX <| rX <| rX <| rX <| rX <| rV <| rW <| rA <| rN), (hE rfl <| hE rfl <| hN), rfl, rfl, (roE rfl <| roE rfl <| roN)⟩⟩
     ·cases h; exact (.p _)
def X7 : Nat → Q0 → Q0 → Option (Bool)
 | 0 => fun _ _ => none
 | N + 1 => V5 (X7 N) N
theorem U0 {N} {a} {b} {r} (h : X7 N a b = some r) : Y9 Tryd.prog G1 27 [.agg (Q0.cells a), .agg (Q0.cells b)] (.bool r) := by
 induction N generalizing a b r with
 | zero => simp [X7] at h
 | succ N ih => exact Gq (fun h => ih h) h
def V0 (_N : Nat) (kind : Int) (n_1 : Int) : Option (Q0) :=
 some (⟨kind, n_1, [], []⟩ : Q0)
theorem Vh {N} {kind} {n_1} {r} (h : V0 N kind n_1 = some r) : Y9 Tryd.prog G1 26 [.int .i64 kind, .int .u64 n_1] (.agg (Q0.cells r)) := by
 refine Q6 k26 ?_
 unfold V0 at h
 obtain rfl := Qm h; exact q4n
def X9 (_N : Nat) (most : Int) : Option (Bool) :=
 cond (Q5 .geq most 0)
 (some (Q5 .leq most 32))
 (some false)
theorem Ur {N} {most} {r} (h : X9 N most = some r) : Y9 Tryd.prog G1 34 [.int .i64 most] (.bool r) := by
 refine Q6 k34 ?_
 unfold X9 at h
 apply iU h <;> intro h
 ·cases h; exact (.p _)
 ·cases h; exact (.p _)
def Qr (_N : Nat) (c : Q1) : Option ((List UInt8) × Q1) :=
 cond (decide (0 ≤ c.at')) (cond (Nat.ble c.at'.toNat c.text.length && Nat.ble c.text.length c.text.length) (some (((c.text.take c.text.length).drop c.at'.toNat), c)) none) none
theorem Zk {N} {c} {r} (h : Qr N c = some r) : Qcy Tryd.prog G1 89 (Q1.cells c) [] (.str r.1) (Q1.cells r.2) := by
 refine Vw k89 ?_
 unfold Qr at h
 refine Qd ?_
 refine kU h fun h => ?_
 refine kU h fun h => ?_
 obtain rfl := Qm h; exact ⟨_, _, rfl, p3, (.p _)⟩
def W2 (_N : Nat) (c : Q1) : Option ((Bool) × Q1) :=
 some ((Q5 .eql c.err 0), c)
theorem Q19 {N} {c} {r} (h : W2 N c = some r) : Qcy Tryd.prog G1 90 (Q1.cells c) [] (.bool r.1) (Q1.cells r.2) := by
 refine Vw k90 ?_
 unfold W2 at h
 obtain rfl := Qm h; exact ⟨_, _, rfl, p3, (.p _)⟩
def Vg (_N : Nat) (c : Q1) (n_1 : Int) : Option ((Bool) × Q1) :=
 cond (Q5 .geq n_1 0)
 (some ((Q5 .leq n_1 (IntKind.wrap .i64 ((c.text.length : Int) - c.at'))), c))
 (some (false, c))
theorem Q1o {N} {c} {n_1} {r} (h : Vg N c n_1 = some r) : Qcy Tryd.prog G1 91 (Q1.cells c) [.int .i64 n_1] (.bool r.1) (Q1.cells r.2) := by
 refine Vw k91 ?_
 unfold Vg at h
 refine Qd ?_
 apply iU h <;> intro h
 ·obtain rfl := Qm h; exact ⟨_, _, rfl, p3, (.p _)⟩
 ·obtain rfl := Qm h; exact ⟨_, _, rfl, p3, (.p _)⟩
def Qi (N : Nat) (c : Q1) (n_1 : Int) : Option ((List UInt8) × Q1) :=
 (W2 N c).bind fun v1 =>
 cond (!v1.1)
 (some ([], v1.2))
 ((Vg N v1.2 n_1).bind fun v4 =>
 cond (!v4.1)
 (some ([], (⟨v4.2.text, v4.2.at', 3⟩ : Q1)))
 (cond (decide (0 ≤ v4.2.at')) (cond (decide (0 ≤ (IntKind.wrap .i64 (v4.2.at' + n_1)))) (cond (Nat.ble v4.2.at'.toNat ((IntKind.wrap .i64 (v4.2.at' + n_1)).toNat) && Nat.ble ((IntKind.wrap .i64 (v4.2.at' + n_1)).toNat) v4.2.text.length) (some (((v4.2.text.take ((IntKind.wrap .i64 (v4.2.at' + n_1)).toNat)).drop v4.2.at'.toNat), (⟨v4.2.text, (IntKind.wrap .i64 (v4.2.at' + n_1)), v4.2.err⟩ : Q1))) none) none) none))
theorem Qq {N} {c} {n_1} {r} (h : Qi N c n_1 = some r) : Qcy Tryd.prog G1 70 (Q1.cells c) [.int .i64 n_1] (.str r.1) (Q1.cells r.2) := by
 refine Vw k70 ?_
 unfold Qi at h
 refine cM h Q19 rfl p0 fun v1 h => ?_
 apply iU h <;> intro h
 ·obtain rfl := Qm h; exact ⟨_, _, rfl, p3, (.p _)⟩
 ·refine cM h Q1o rfl p1 fun v4 h => ?_
  apply iU h <;> intro h
  ·obtain rfl := Qm h; exact ⟨_, _, rfl, p3, (.p _)⟩
  ·refine Qd ?_
   refine kU h fun h => ?_
   refine kU h fun h => ?_
   refine kU h fun h => ?_
   obtain rfl := Qm h; exact ⟨_, _, rfl, p3, (.p _)⟩
def Qj (_N : Nat) (c : Q1) : Option ((Int) × Q1) :=
 some (c.at', c)
theorem Zm {N} {c} {r} (h : Qj N c = some r) : Qcy Tryd.prog G1 74 (Q1.cells c) [] (.int .i64 r.1) (Q1.cells r.2) := by
 refine Vw k74 ?_
 unfold Qj at h
 obtain rfl := Qm h; exact ⟨_, _, rfl, p3, (.p _)⟩
def Jb (N : Nat) (s_0 : List UInt8) : Nat → Int → Int → Option (Int)
 | 0, _, _ => none
 | n + 1, n12, s13 =>
  cond (Q5 .lss s13 (((s_0.take s_0.length).drop ((IntKind.wrap .i64 ((s_0.length : Int) - 8)).toNat)).length : Int))
  ((idx ((s_0.take s_0.length).drop ((IntKind.wrap .i64 ((s_0.length : Int) - 8)).toNat)) s13).bind fun b15 =>
  Jb N s_0 n (orI .u64 (Jq .u64 n12 8) (IntKind.wrap .u64 (b15.toNat : Int))) (IntKind.wrap .i64 (s13 + 1)))
  (some n12)
def Ve (N : Nat) (s_0 : List UInt8) : Nat → Int → Int → Option (Int)
 | 0, _, _ => none
 | n + 1, n25, s26 =>
  cond (Q5 .lss s26 (s_0.length : Int))
  ((idx s_0 s26).bind fun b28 =>
  Ve N s_0 n (orI .u64 (Jq .u64 n25 8) (IntKind.wrap .u64 (b28.toNat : Int))) (IntKind.wrap .i64 (s26 + 1)))
  (some n25)
def Gd (N : Nat) (s_0 : List UInt8) : Option (Int) :=
 cond (Q5 .gtr (s_0.length : Int) 8)
 (cond (decide (0 ≤ (IntKind.wrap .i64 ((s_0.length : Int) - 8)))) (cond (Nat.ble (IntKind.wrap .i64 ((s_0.length : Int) - 8)).toNat s_0.length && Nat.ble s_0.length s_0.length) (Jb N s_0 N 0 0) none) none)
 (Ve N s_0 N 0 0)
theorem Q8f {N} {s_0} {r} (h : Gd N s_0 = some r) : Y9 Tryd.prog G1 51 [.str s_0] (.int .u64 r) := by
 refine Q6 k51 ?_
 unfold Gd at h
 apply iU h <;> intro h
 ·refine kU h fun h => ?_
  refine kU h fun h => ?_
  refine lpC (τ := Int × Int) (fun ⟨n12, s13⟩ => (.p (.str ((s_0.take s_0.length).drop ((IntKind.wrap .i64 ((s_0.length : Int) - 8)).toNat))) :: .any :: .any :: iW n12 :: a8 (a2 (.p (.int .i64 (((s_0.take s_0.length).drop ((IntKind.wrap .i64 ((s_0.length : Int) - 8)).toNat)).length : Int)) :: iI s13 :: a8 (a2 (.any :: [])))) : List AV)) (fun ⟨_, _⟩ => ([] : List AObj)) (fun n0 ⟨n12, s13⟩ => Jb N s_0 n0 n12 s13) (0, 0) h (fun i => i) ⟨(rE rfl <| rW <| rE rfl <| rX <| rW <| rE rfl <| rE rfl <| rX <| rW <| rA <| rN), (hN), rfl, rfl, (roN)⟩ fun n0 ⟨n12, s13⟩ h => ?_
  simp only [Jb] at h
  apply iU h <;> intro h
  ·refine xB h fun b15 h => ?_
   show Exists _
   exact ⟨(n0, (orI .u64 (Jq .u64 n12 8) (IntKind.wrap .u64 (b15.toNat : Int))), (IntKind.wrap .i64 (s13 + 1))), h, Nat.lt_succ_self _, (fun i => i), ⟨(rE rfl <| rW <| rE rfl <| rX <| rW <| rE rfl <| rE rfl <| rX <| rW <| rA <| rN), (hN), rfl, rfl, (roN)⟩⟩
  ·cases h; exact (.p _)
 ·refine lpC (τ := Int × Int) (fun ⟨n25, s26⟩ => (iS s_0 :: .any :: .any :: iW n25 :: a8 (a2 (iI (s_0.length : Int) :: iI s26 :: a8 (a2 (.any :: [])))) : List AV)) (fun ⟨_, _⟩ => ([] : List AObj)) (fun n1 ⟨n25, s26⟩ => Ve N s_0 n1 n25 s26) (0, 0) h (fun i => i) ⟨(rE rfl <| rW <| rE rfl <| rX <| rW <| rE rfl <| rE rfl <| rX <| rW <| rA <| rN), (hN), rfl, rfl, (roN)⟩ fun n1 ⟨n25, s26⟩ h => ?_
  simp only [Ve] at h
  apply iU h <;> intro h
  ·refine xB h fun b28 h => ?_
   show Exists _
   exact ⟨(n1, (orI .u64 (Jq .u64 n25 8) (IntKind.wrap .u64 (b28.toNat : Int))), (IntKind.wrap .i64 (s26 + 1))), h, Nat.lt_succ_self _, (fun i => i), ⟨(rE rfl <| rW <| rE rfl <| rX <| rW <| rE rfl <| rE rfl <| rX <| rW <| rA <| rN), (hN), rfl, rfl, (roN)⟩⟩
  ·cases h; exact (.p _)
def Qn (N : Nat) (c : Q1) (size : Int) : Option ((Int) × Q1) :=
 (Qi N c size).bind fun v1 =>
 (Gd N v1.1).bind fun v3 =>
 some (v3, v1.2)
theorem Zx {N} {c} {size} {r} (h : Qn N c size = some r) : Qcy Tryd.prog G1 68 (Q1.cells c) [.int .i64 size] (.int .u64 r.1) (Q1.cells r.2) := by
 refine Vw k68 ?_
 unfold Qn at h
 refine cM h Qq rfl p1 fun v1 h => ?_
 refine cP h Q8f p1 fun v3 h => ?_
 obtain rfl := Qm h; exact ⟨_, _, rfl, p3, (.p _)⟩
def Qs (N : Nat) (c : Q1) : Option ((Int) × Q1) :=
 (Qr N c).bind fun v1 =>
 some ((v1.1.length : Int), v1.2)
theorem Zj {N} {c} {r} (h : Qs N c = some r) : Qcy Tryd.prog G1 69 (Q1.cells c) [] (.int .i64 r.1) (Q1.cells r.2) := by
 refine Vw k69 ?_
 unfold Qs at h
 refine cM h Zk rfl p0 fun v1 h => ?_
 obtain rfl := Qm h; exact ⟨_, _, rfl, p3, (.p _)⟩
def Qe (_N : Nat) (c : Q1) : Option ((Int) × Q1) :=
 some (c.err, c)
theorem Z2 {N} {c} {r} (h : Qe N c = some r) : Qcy Tryd.prog G1 72 (Q1.cells c) [] (.int .i64 r.1) (Q1.cells r.2) := by
 refine Vw k72 ?_
 unfold Qe at h
 obtain rfl := Qm h; exact ⟨_, _, rfl, p3, (.p _)⟩
def Z4 (_N : Nat) (v : Q0) : Option (Bool) :=
 cond (Q5 .eql v.Kind 11)
 (cond (Q5 .eql (Gf .u64 (Q21 .u64 v.N' 23) 255) 255)
 (some (Q5 .neq (Jq .u64 v.N' 41) 0))
 (some false))
 (cond (Q5 .eql v.Kind 12)
 (cond (Q5 .eql (Gf .u64 (Q21 .u64 v.N' 52) 2047) 2047)
 (some (Q5 .neq (Jq .u64 v.N' 12) 0))
 (some false))
 (some false))
theorem J5 {N} {v} {r} (h : Z4 N v = some r) : Y9 Tryd.prog G1 107 [.agg (Q0.cells v)] (.bool r) := by
 refine Q6 Qqt ?_
 unfold Z4 at h
 apply iU h <;> intro h
 ·apply iU h <;> intro h
  ·cases h; exact (.p _)
  ·cases h; exact (.p _)
 ·apply iU h <;> intro h
  ·apply iU h <;> intro h
   ·cases h; exact (.p _)
   ·cases h; exact (.p _)
  ·cases h; exact (.p _)
def Xj (R_amqvalue_alike : Q0 → Q0 → Option (Bool)) (N : Nat) (a : Q0) (b : Q0) : Nat → Int → Option (Bool)
 | 0, _ => none
 | n + 1, s28 =>
  cond (Q5 .lss s28 ((Q0.rows a.Items).length : Int))
  ((idx a.Items s28).bind fun y30 =>
  (idx b.Items s28).bind fun y32 =>
  (R_amqvalue_alike y30 y32).bind fun v34 =>
  cond (!v34)
  (some false)
  (Xj R_amqvalue_alike N a b n (IntKind.wrap .i64 (s28 + 1))))
  (some true)
def Xi (R_amqvalue_alike : Q0 → Q0 → Option (Bool)) (N : Nat) (a : Q0) (b : Q0) : Nat → Int → Option (Bool)
 | 0, _ => none
 | n + 1, s54 =>
  cond (Q5 .lss s54 ((Q0.rows a.Items).length : Int))
  ((idx a.Items s54).bind fun y56 =>
  (idx b.Items s54).bind fun y58 =>
  (R_amqvalue_alike y56 y58).bind fun v60 =>
  cond (!v60)
  (some false)
  (Xi R_amqvalue_alike N a b n (IntKind.wrap .i64 (s54 + 1))))
  (some true)
def U9 (R_amqvalue_alike : Q0 → Q0 → Option (Bool)) (N : Nat) (a : Q0) (b : Q0) : Option (Bool) :=
 cond (Q5 .neq a.Kind b.Kind)
 (some false)
 (cond (Q66 .neq a.Text b.Text)
 (some false)
 (cond (Q5 .neq ((Q0.rows a.Items).length : Int) ((Q0.rows b.Items).length : Int))
 (some false)
 (cond (Q5 .neq a.N' b.N')
 ((Z4 N a).bind fun v5 =>
 cond v5
 ((Z4 N b).bind fun v8 =>
 cond (!v8)
 (some false)
 (Xj R_amqvalue_alike N a b N 0))
 (some false))
 (Xi R_amqvalue_alike N a b N 0))))
theorem Q2t {R_amqvalue_alike : Q0 → Q0 → Option (Bool)} (hR_amqvalue_alike : ∀ {a} {b} {r}, R_amqvalue_alike a b = some r → Y9 Tryd.prog G1 97 [.agg (Q0.cells a), .agg (Q0.cells b)] (.bool r)) {N} {a} {b} {r} (h : U9 R_amqvalue_alike N a b = some r) : Y9 Tryd.prog G1 97 [.agg (Q0.cells a), .agg (Q0.cells b)] (.bool r) := by
 refine Q6 k97 ?_
 unfold U9 at h
 apply iU h <;> intro h
 ·cases h; exact (.p _)
 ·apply iU h <;> intro h
  ·cases h; exact (.p _)
  ·apply iU h <;> intro h
   ·cases h; exact (.p _)
   ·apply iU h <;> intro h
    ·refine cP h J5 (.cons q4 .nil) fun v5 h => ?_
     apply iU h <;> intro h
     ·refine cP h J5 (.cons q4 .nil) fun v8 h => ?_
      apply iU h <;> intro h
      ·cases h; exact (.p _)
      ·refine lpC (τ := Int) (fun s28 => (.any :: .any :: .ptr 0 0 :: .ptr 1 0 :: a16 (a16 (a4 (a2 (.any :: iI ((Q0.rows a.Items).length : Int) :: iI s28 :: a8 (a4 (a2 (.any :: []))))))) : List AV)) (fun _ => (.cells (iI a.Kind :: iW a.N' :: iS a.Text :: .p (.slice 4 (Q0.rows a.Items)) :: []) :: .cells (iI b.Kind :: iW b.N' :: iS b.Text :: .p (.slice 4 (Q0.rows b.Items)) :: []) :: [] : List AObj)) (fun n0 s28 => Xj R_amqvalue_alike N a b n0 s28) (0) h (fun i => i) ⟨(rW <| rE rfl <| rE rfl <| rX <| rX <| rX <| rX <| rV <| rW <| rA <| rE rfl <| rE rfl <| rX <| rV <| rW <| rA <| rN), (hE rfl <| hE rfl <| hN), rfl, rfl, (roE rfl <| roE rfl <| roN)⟩ fun n0 s28 h => ?_
       simp only [Xj] at h
       apply iU h <;> intro h
       ·refine Qd ?_
        refine Q0.xR h fun y30 h => ?_
        refine Q0.xR h fun y32 h => ?_
        refine cD h hR_amqvalue_alike (.cons q4 (.cons q4 .nil)) fun v34 h => ?_
        apply iU h <;> intro h
        ·cases h; exact (.p _)
        ·show Exists _
         exact ⟨(n0, (IntKind.wrap .i64 (s28 + 1))), h, Nat.lt_succ_self _, (fun i => i), ⟨(rW <| rE rfl <| rE rfl <| rX <| rX <| rX <| rX <| rV <| rW <| rA <| rE rfl <| rE rfl <| rX <| rV <| rW <| rA <| rN), (hE rfl <| hE rfl <| hN), rfl, rfl, (roE rfl <| roE rfl <| roN)⟩⟩
       ·cases h; exact (.p _)
     ·cases h; exact (.p _)
    ·refine lpC (τ := Int) (fun s54 => (.any :: .any :: .ptr 0 0 :: .ptr 1 0 :: a16 (a16 (a4 (a2 (.any :: iI ((Q0.rows a.Items).length : Int) :: iI s54 :: a8 (a4 (a2 (.any :: []))))))) : List AV)) (fun _ => (.cells (iI a.Kind :: iW a.N' :: iS a.Text :: .p (.slice 4 (Q0.rows a.Items)) :: []) :: .cells (iI b.Kind :: iW b.N' :: iS b.Text :: .p (.slice 4 (Q0.rows b.Items)) :: []) :: [] : List AObj)) (fun n1 s54 => Xi R_amqvalue_alike N a b n1 s54) (0) h (fun i => i) ⟨(rW <| rE rfl <| rE rfl <| rX <| rX <| rX <| rX <| rV <| rW <| rA <| rE rfl <| rE rfl <| rX <| rV <| rW <| rA <| rN), (hE rfl <| hE rfl <| hN), rfl, rfl, (roE rfl <| roE rfl <| roN)⟩ fun n1 s54 h => ?_
     simp only [Xi] at h
     apply iU h <;> intro h
     ·refine Qd ?_
      refine Q0.xR h fun y56 h => ?_
      refine Q0.xR h fun y58 h => ?_
      refine cD h hR_amqvalue_alike (.cons q4 (.cons q4 .nil)) fun v60 h => ?_
      apply iU h <;> intro h
      ·cases h; exact (.p _)
      ·show Exists _
       exact ⟨(n1, (IntKind.wrap .i64 (s54 + 1))), h, Nat.lt_succ_self _, (fun i => i), ⟨(rW <| rE rfl <| rE rfl <| rX <| rX <| rX <| rX <| rV <| rW <| rA <| rE rfl <| rE rfl <| rX <| rV <| rW <| rA <| rN), (hE rfl <| hE rfl <| hN), rfl, rfl, (roE rfl <| roE rfl <| roN)⟩⟩
     ·cases h; exact (.p _)
def W0 : Nat → Q0 → Q0 → Option (Bool)
 | 0 => fun _ _ => none
 | N + 1 => U9 (W0 N) N
theorem Q31 {N} {a} {b} {r} (h : W0 N a b = some r) : Y9 Tryd.prog G1 97 [.agg (Q0.cells a), .agg (Q0.cells b)] (.bool r) := by
 induction N generalizing a b r with
 | zero => simp [W0] at h
 | succ N ih => exact Q2t (fun h => ih h) h
def Xx (N : Nat) (k0 : Int → Option (Int)) (v : Q0) (i56 : Int) : Nat → Int → Option (Int)
 | 0, _ => none
 | n + 1, k75 =>
  cond (Q5 .lss k75 i56)
  ((idx v.Items i56).bind fun y77 =>
  (idx v.Items k75).bind fun y79 =>
  (W0 N y77 y79).bind fun v81 =>
  cond v81
  (some 16)
  (Xx N k0 v i56 n (IntKind.wrap .i64 (k75 + 2))))
  (k0 (IntKind.wrap .i64 (i56 + 2)))
def Yo (N : Nat) (v : Q0) : Nat → Int → Option (Int)
 | 0, _ => none
 | n + 1, i56 =>
  cond (Q5 .lss i56 ((Q0.rows v.Items).length : Int))
  (Xx N (Yo N v n) v i56 N 0)
  (some 0)
def Xw (N : Nat) (v : Q0) : Option (Int) :=
 cond (Q5 .neq v.Kind 23)
 (some 0)
 (Yo N v N 2)
theorem Vf {N} {v} {r} (h : Xw N v = some r) : Y9 Tryd.prog G1 76 [.agg (Q0.cells v)] (.int .i64 r) := by
 refine Q6 k76 ?_
 unfold Xw at h
 apply iU h <;> intro h
 ·cases h; exact (.p _)
 ·refine lpC (τ := Int) (fun i56 => (.any :: .ptr 0 0 :: .any :: iI i56 :: a16 (a8 (a2 (.any :: []))) : List AV)) (fun _ => (.cells (iI v.Kind :: iW v.N' :: iS v.Text :: .p (.slice 4 (Q0.rows v.Items)) :: []) :: [] : List AObj)) (fun n0 i56 => Yo N v n0 i56) (2) h (fun i => i) ⟨(rA <| rE rfl <| rA <| rE rfl <| rX <| rX <| rX <| rW <| rA <| rN), (hE rfl <| hN), rfl, rfl, (roE rfl <| roN)⟩ fun n0 i56 h => ?_
  simp only [Yo] at h
  apply iU h <;> intro h
  ·refine lpC (τ := Int) (fun k75 => (.any :: .ptr 0 0 :: .any :: iI i56 :: iI k75 :: a16 (a8 (a2 ([]))) : List AV)) (fun _ => (.cells (iI v.Kind :: iW v.N' :: iS v.Text :: .p (.slice 4 (Q0.rows v.Items)) :: []) :: [] : List AObj)) (fun n1 k75 => Xx N (Yo N v n0) v i56 n1 k75) (0) h (fun i => i) ⟨(rA <| rE rfl <| rA <| rE rfl <| rE rfl <| rX <| rX <| rX <| rW <| rN), (hE rfl <| hN), rfl, rfl, (roE rfl <| roN)⟩ fun n1 k75 h => ?_
   simp only [Xx] at h
   apply iU h <;> intro h
   ·refine Qd ?_
    refine Q0.xR h fun y77 h => ?_
    refine Q0.xR h fun y79 h => ?_
    refine cD h Q31 (.cons q4 (.cons q4 .nil)) fun v81 h => ?_
    apply iU h <;> intro h
    ·cases h; exact (.p _)
    ·show Exists _
     exact ⟨(n1, (IntKind.wrap .i64 (k75 + 2))), h, Nat.lt_succ_self _, (fun i => i), ⟨(rA <| rE rfl <| rA <| rE rfl <| rE rfl <| rX <| rX <| rX <| rW <| rN), (hE rfl <| hN), rfl, rfl, (roE rfl <| roN)⟩⟩
   ·show Exists _
    exact ⟨(n0, (IntKind.wrap .i64 (i56 + 2))), h, Nat.lt_succ_self _, (fun i => i), ⟨(rA <| rE rfl <| rA <| rE rfl <| rX <| rX <| rX <| rW <| rA <| rN), (hE rfl <| hN), rfl, rfl, (roE rfl <| roN)⟩⟩
  ·cases h; exact (.p _)
def Vd (_N : Nat) (kind : Int) : Option (Int × Bool) :=
 cond (Q5 .eql kind 2)
 (some (1, false))
 (cond (Q5 .eql kind 3)
 (some (8, false))
 (cond (Q5 .eql kind 4)
 (some (16, false))
 (cond (Q5 .eql kind 5)
 (some (32, false))
 (cond (Q5 .eql kind 11)
 (some (32, false))
 (cond (Q5 .eql kind 13)
 (some (32, false))
 (cond (Q5 .eql kind 16)
 (some (32, false))
 (cond (Q5 .eql kind 6)
 (some (64, false))
 (cond (Q5 .eql kind 12)
 (some (64, false))
 (cond (Q5 .eql kind 14)
 (some (64, false))
 (cond (Q5 .eql kind 7)
 (some (8, true))
 (cond (Q5 .eql kind 8)
 (some (16, true))
 (cond (Q5 .eql kind 9)
 (some (32, true))
 (cond (Q5 .eql kind 10)
 (some (64, true))
 (cond (Q5 .eql kind 17)
 (some (64, true))
 (some (0, false))))))))))))))))
theorem Q0d {N} {kind} {r} (h : Vd N kind = some r) : Y9 Tryd.prog G1 92 [.int .i64 kind] (.tuple [.int .i64 r.1, .bool r.2]) := by
 refine Q6 k92 ?_
 unfold Vd at h
 apply iU h <;> intro h
 ·obtain rfl := Qm h; exact u2
 ·apply iU h <;> intro h
  ·obtain rfl := Qm h; exact u2
  ·apply iU h <;> intro h
   ·obtain rfl := Qm h; exact u2
   ·refine ifO h (fun hc4 h => ?_) (fun hc4 h => ?_)
    ·refine ifT hc4 ?_
     obtain rfl := Qm h; exact u2
    ·refine ifO h (fun hc5 h => ?_) (fun hc5 h => ?_)
     ·refine ifT hc5 ?_
      obtain rfl := Qm h; exact u2
     ·refine ifO h (fun hc6 h => ?_) (fun hc6 h => ?_)
      ·refine ifT hc6 ?_
       obtain rfl := Qm h; exact u2
      ·apply iU h <;> intro h
       ·obtain rfl := Qm h; exact u2
       ·refine ifO h (fun hc8 h => ?_) (fun hc8 h => ?_)
        ·refine ifT hc8 ?_
         obtain rfl := Qm h; exact u2
        ·refine ifO h (fun hc9 h => ?_) (fun hc9 h => ?_)
         ·refine ifT hc9 ?_
          obtain rfl := Qm h; exact u2
         ·apply iU h <;> intro h
          ·obtain rfl := Qm h; exact u2
          ·apply iU h <;> intro h
           ·obtain rfl := Qm h; exact u2
           ·apply iU h <;> intro h
            ·obtain rfl := Qm h; exact u2
            ·apply iU h <;> intro h
             ·obtain rfl := Qm h; exact u2
             ·refine ifO h (fun hc14 h => ?_) (fun hc14 h => ?_)
              ·refine ifT hc14 ?_
               obtain rfl := Qm h; exact u2
              ·apply iU h <;> intro h
               ·obtain rfl := Qm h; exact u2
               ·obtain rfl := Qm h; exact u2
def Vs (N : Nat) (c : Qg) (n_1 : Int) : Option (Int) :=
 (Vd N c.Kind).bind fun v1 =>
 cond v1.2
 (cond (Q5 .gtr c.Width 0)
 (cond (decide (0 ≤ (IntKind.wrap .i64 (64 - (IntKind.wrap .i64 (8 * c.Width)))))) (some (IntKind.wrap .u64 (Q21 .i64 (IntKind.wrap .i64 (Jq .u64 n_1 (IntKind.wrap .i64 (64 - (IntKind.wrap .i64 (8 * c.Width)))))) (IntKind.wrap .i64 (64 - (IntKind.wrap .i64 (8 * c.Width))))))) none)
 (some n_1))
 (some n_1)
theorem Q41 {N} {c} {n_1} {r} (h : Vs N c n_1 = some r) : Y9 Tryd.prog G1 71 [.agg (Qg.cells c), .int .u64 n_1] (.int .u64 r) := by
 refine Q6 k71 ?_
 unfold Vs at h
 refine cP h Q0d p1 fun v1 h => ?_
 apply iU h <;> intro h
 ·apply iU h <;> intro h
  ·obtain ⟨hk5, h⟩ := Q81 h
   refine Q3m hk5 ?_
   refine Q3m hk5 ?_
   cases h; exact (.p _)
  ·cases h; exact (.p _)
 ·cases h; exact (.p _)
def Qk (_N : Nat) (s_0 : List UInt8) : Option (Int) :=
 (idx s_0 0).bind fun b1 =>
 (idx s_0 1).bind fun b3 =>
 (idx s_0 2).bind fun b5 =>
 (idx s_0 3).bind fun b7 =>
 (idx s_0 4).bind fun b9 =>
 (idx s_0 5).bind fun b11 =>
 (idx s_0 6).bind fun b13 =>
 (idx s_0 7).bind fun b15 =>
 some (orI .u64 (orI .u64 (orI .u64 (orI .u64 (orI .u64 (orI .u64 (orI .u64 (IntKind.wrap .u64 (b1.toNat : Int)) (Jq .u64 (IntKind.wrap .u64 (b3.toNat : Int)) 8)) (Jq .u64 (IntKind.wrap .u64 (b5.toNat : Int)) 16)) (Jq .u64 (IntKind.wrap .u64 (b7.toNat : Int)) 24)) (Jq .u64 (IntKind.wrap .u64 (b9.toNat : Int)) 32)) (Jq .u64 (IntKind.wrap .u64 (b11.toNat : Int)) 40)) (Jq .u64 (IntKind.wrap .u64 (b13.toNat : Int)) 48)) (Jq .u64 (IntKind.wrap .u64 (b15.toNat : Int)) 56))
theorem Qw {N} {s_0} {r} (h : Qk N s_0 = some r) : Y9 Tryd.prog G1 119 [.str s_0] (.int .u64 r) := by
 refine Q6 Qqj ?_
 unfold Qk at h
 refine Qd ?_
 refine xB h fun b1 h => ?_
 refine xB h fun b3 h => ?_
 refine xB h fun b5 h => ?_
 refine xB h fun b7 h => ?_
 refine xB h fun b9 h => ?_
 refine xB h fun b11 h => ?_
 refine xB h fun b13 h => ?_
 refine xB h fun b15 h => ?_
 cases h; exact (.p _)
def Zb (N : Nat) (k0 : (List UInt8) → Option (Bool)) : Nat → (List UInt8) → Option (Bool)
 | 0, _ => none
 | n + 1, s272 =>
  cond (Q5 .gtr (s272.length : Int) 32)
  ((Qk N s272).bind fun v274 =>
  cond (Nat.ble 8 s272.length && Nat.ble s272.length s272.length) ((Qk N ((s272.take s272.length).drop 8)).bind fun v277 =>
  cond (Nat.ble 16 s272.length && Nat.ble s272.length s272.length) ((Qk N ((s272.take s272.length).drop 16)).bind fun v280 =>
  cond (Nat.ble 24 s272.length && Nat.ble s272.length s272.length) ((Qk N ((s272.take s272.length).drop 24)).bind fun v283 =>
  cond (Q5 .eql (Gf .u64 (orI .u64 (orI .u64 v274 v277) (orI .u64 v280 v283)) 9259542123273814144) 0)
  (cond (Nat.ble 32 s272.length && Nat.ble s272.length s272.length) (Zb N k0 n ((s272.take s272.length).drop 32)) none)
  (k0 s272)) none) none) none)
  (k0 s272)
def Q2 (N : Nat) : Nat → (List UInt8) → Option (Bool)
 | 0, _ => none
 | n + 1, s224 =>
  cond (Q5 .gtr (s224.length : Int) 0)
  ((idx s224 0).bind fun b226 =>
  cond (Q5 .lss (b226.toNat : Int) 128)
  (cond (Nat.ble 1 s224.length && Nat.ble s224.length s224.length) (cond (Q5 .gtr (((s224.take s224.length).drop 1).length : Int) 8)
  ((Qk N ((s224.take s224.length).drop 1)).bind fun v231 =>
  cond (Q5 .eql (Gf .u64 v231 9259542123273814144) 0)
  (cond (Nat.ble 8 (((s224.take s224.length).drop 1).length) && Nat.ble (((s224.take s224.length).drop 1).length) ((s224.take s224.length).drop 1).length) (cond (Q5 .gtr (((((s224.take s224.length).drop 1).take (((s224.take s224.length).drop 1).length)).drop 8).length : Int) 16)
  ((Qk N ((((s224.take s224.length).drop 1).take (((s224.take s224.length).drop 1).length)).drop 8)).bind fun v236 =>
  cond (Nat.ble 8 (((((s224.take s224.length).drop 1).take (((s224.take s224.length).drop 1).length)).drop 8).length) && Nat.ble (((((s224.take s224.length).drop 1).take (((s224.take s224.length).drop 1).length)).drop 8).length) ((((s224.take s224.length).drop 1).take (((s224.take s224.length).drop 1).length)).drop 8).length) ((Qk N ((((((s224.take s224.length).drop 1).take (((s224.take s224.length).drop 1).length)).drop 8).take (((((s224.take s224.length).drop 1).take (((s224.take s224.length).drop 1).length)).drop 8).length)).drop 8)).bind fun v239 =>
  cond (Q5 .eql (Gf .u64 (orI .u64 v236 v239) 9259542123273814144) 0)
  (cond (Nat.ble 16 (((((s224.take s224.length).drop 1).take (((s224.take s224.length).drop 1).length)).drop 8).length) && Nat.ble (((((s224.take s224.length).drop 1).take (((s224.take s224.length).drop 1).length)).drop 8).length) ((((s224.take s224.length).drop 1).take (((s224.take s224.length).drop 1).length)).drop 8).length) (Zb N (Q2 N n) N ((((((s224.take s224.length).drop 1).take (((s224.take s224.length).drop 1).length)).drop 8).take (((((s224.take s224.length).drop 1).take (((s224.take s224.length).drop 1).length)).drop 8).length)).drop 16)) none)
  (Q2 N n ((((s224.take s224.length).drop 1).take (((s224.take s224.length).drop 1).length)).drop 8))) none)
  (Q2 N n ((((s224.take s224.length).drop 1).take (((s224.take s224.length).drop 1).length)).drop 8))) none)
  (Q2 N n ((s224.take s224.length).drop 1)))
  (Q2 N n ((s224.take s224.length).drop 1))) none)
  ((idx gtab0 (b226.toNat : Int)).bind fun y287 =>
  (idx gtab1 (Q21 .u8 y287 4)).bind fun y289 =>
  cond (Q5 .eql (IntKind.wrap .i64 (Gf .u8 y287 7)) 2)
  (cond (Q5 .lss (s224.length : Int) 2)
  (some false)
  ((idx s224 1).bind fun b293 =>
  cond (Q5 .lss (b293.toNat : Int) y289.1)
  (some false)
  ((idx s224 1).bind fun b296 =>
  cond (Q5 .lss y289.2 (b296.toNat : Int))
  (some false)
  (cond (Nat.ble 2 s224.length && Nat.ble s224.length s224.length) (Q2 N n ((s224.take s224.length).drop 2)) none))))
  (cond (Q5 .eql (IntKind.wrap .i64 (Gf .u8 y287 7)) 3)
  (cond (Q5 .lss (s224.length : Int) 3)
  (some false)
  ((idx s224 1).bind fun b302 =>
  cond (Q5 .lss (b302.toNat : Int) y289.1)
  (some false)
  ((idx s224 1).bind fun b305 =>
  cond (Q5 .lss y289.2 (b305.toNat : Int))
  (some false)
  ((idx s224 2).bind fun b308 =>
  cond (Q5 .lss (b308.toNat : Int) 128)
  (some false)
  ((idx s224 2).bind fun b311 =>
  cond (Q5 .lss 191 (b311.toNat : Int))
  (some false)
  (cond (Nat.ble 3 s224.length && Nat.ble s224.length s224.length) (Q2 N n ((s224.take s224.length).drop 3)) none))))))
  (cond (Q5 .eql (IntKind.wrap .i64 (Gf .u8 y287 7)) 4)
  (cond (Q5 .lss (s224.length : Int) 4)
  (some false)
  ((idx s224 1).bind fun b317 =>
  cond (Q5 .lss (b317.toNat : Int) y289.1)
  (some false)
  ((idx s224 1).bind fun b320 =>
  cond (Q5 .lss y289.2 (b320.toNat : Int))
  (some false)
  ((idx s224 2).bind fun b323 =>
  cond (Q5 .lss (b323.toNat : Int) 128)
  (some false)
  ((idx s224 2).bind fun b326 =>
  cond (Q5 .lss 191 (b326.toNat : Int))
  (some false)
  ((idx s224 3).bind fun b329 =>
  cond (Q5 .lss (b329.toNat : Int) 128)
  (some false)
  ((idx s224 3).bind fun b332 =>
  cond (Q5 .lss 191 (b332.toNat : Int))
  (some false)
  (cond (Nat.ble 4 s224.length && Nat.ble s224.length s224.length) (Q2 N n ((s224.take s224.length).drop 4)) none))))))))
  (some false)))))
  (some true)
def Xc (N : Nat) (s_0 : List UInt8) : Option (Bool) :=
 Q2 N N s_0
theorem Jj {N} {s_0} {r} (h : Xc N s_0 = some r) : Y9 Tryd.prog G1 106 [.str s_0] (.bool r) := by
 refine Q6 Qr3 ?_
 unfold Xc at h
 refine lpC (τ := (List UInt8)) (fun s224 => (iS s224 :: a16 (a16 (a16 (a16 (a16 (a16 (a16 (a16 (a16 (a16 (a8 ([]))))))))))) : List AV)) (fun _ => ([] : List AObj)) (fun n0 s224 => Q2 N n0 s224) (s_0) h (fun i => i) ⟨(rE rfl <| rX <| rX <| rX <| rX <| rX <| rX <| rX <| rX <| rX <| rX <| rX <| rX <| rX <| rX <| rX <| rX <| rX <| rX <| rX <| rX <| rX <| rN), (hN), rfl, rfl, (roN)⟩ fun n0 s224 h => ?_
 simp only [Q2] at h
 apply iU h <;> intro h
 ·refine xB h fun b226 h => ?_
  apply iU h <;> intro h
  ·refine kU h fun h => ?_
   apply iU h <;> intro h
   ·refine cP h Qw p1 fun v231 h => ?_
    apply iU h <;> intro h
    ·refine kU h fun h => ?_
     refine Qd ?_
     apply iU h <;> intro h
     ·refine cD h Qw p1 fun v236 h => ?_
      refine kU h fun h => ?_
      refine cD h Qw p1 fun v239 h => ?_
      apply iU h <;> intro h
      ·refine kU h fun h => ?_
       refine lpC (τ := (List UInt8)) (fun s272 => (iS s272 :: a16 (a16 (a16 (a16 (a16 (a16 (a16 (a16 (a16 (a16 (a8 ([]))))))))))) : List AV)) (fun _ => ([] : List AObj)) (fun n1 s272 => Zb N (Q2 N n0) n1 s272) (((((((s224.take s224.length).drop 1).take (((s224.take s224.length).drop 1).length)).drop 8).take (((((s224.take s224.length).drop 1).take (((s224.take s224.length).drop 1).length)).drop 8).length)).drop 16)) h (fun i => i) ⟨(rE rfl <| rX <| rX <| rX <| rX <| rX <| rX <| rX <| rX <| rX <| rX <| rX <| rX <| rX <| rX <| rX <| rX <| rX <| rX <| rX <| rX <| rX <| rN), (hN), rfl, rfl, (roN)⟩ fun n1 s272 h => ?_
       simp only [Zb] at h
       refine Qd ?_
       apply iU h <;> intro h
       ·refine cD h Qw p1 fun v274 h => ?_
        refine kU h fun h => ?_
        refine cD h Qw p1 fun v277 h => ?_
        refine kU h fun h => ?_
        refine cD h Qw p1 fun v280 h => ?_
        refine kU h fun h => ?_
        refine cD h Qw p1 fun v283 h => ?_
        apply iU h <;> intro h
        ·refine kU h fun h => ?_
         show Exists _
         exact ⟨(n1, ((s272.take s272.length).drop 32)), h, Nat.lt_succ_self _, (fun i => i), ⟨(rE rfl <| rX <| rX <| rX <| rX <| rX <| rX <| rX <| rX <| rX <| rX <| rX <| rX <| rX <| rX <| rX <| rX <| rX <| rX <| rX <| rX <| rX <| rN), (hN), rfl, rfl, (roN)⟩⟩
        ·show Exists _
         exact ⟨(n0, s272), h, Nat.lt_succ_self _, (fun i => i), ⟨(rE rfl <| rX <| rX <| rX <| rX <| rX <| rX <| rX <| rX <| rX <| rX <| rX <| rX <| rX <| rX <| rX <| rX <| rX <| rX <| rX <| rX <| rX <| rN), (hN), rfl, rfl, (roN)⟩⟩
       ·show Exists _
        exact ⟨(n0, s272), h, Nat.lt_succ_self _, (fun i => i), ⟨(rE rfl <| rX <| rX <| rX <| rX <| rX <| rX <| rX <| rX <| rX <| rX <| rX <| rX <| rX <| rX <| rX <| rX <| rX <| rX <| rX <| rX <| rX <| rN), (hN), rfl, rfl, (roN)⟩⟩
      ·show Exists _
       exact ⟨(n0, ((((s224.take s224.length).drop 1).take (((s224.take s224.length).drop 1).length)).drop 8)), h, Nat.lt_succ_self _, (fun i => i), ⟨(rE rfl <| rX <| rX <| rX <| rX <| rX <| rX <| rX <| rX <| rX <| rX <| rX <| rX <| rX <| rX <| rX <| rX <| rX <| rX <| rX <| rX <| rX <| rN), (hN), rfl, rfl, (roN)⟩⟩
     ·show Exists _
      exact ⟨(n0, ((((s224.take s224.length).drop 1).take (((s224.take s224.length).drop 1).length)).drop 8)), h, Nat.lt_succ_self _, (fun i => i), ⟨(rE rfl <| rX <| rX <| rX <| rX <| rX <| rX <| rX <| rX <| rX <| rX <| rX <| rX <| rX <| rX <| rX <| rX <| rX <| rX <| rX <| rX <| rX <| rN), (hN), rfl, rfl, (roN)⟩⟩
    ·show Exists _
     exact ⟨(n0, ((s224.take s224.length).drop 1)), h, Nat.lt_succ_self _, (fun i => i), ⟨(rE rfl <| rX <| rX <| rX <| rX <| rX <| rX <| rX <| rX <| rX <| rX <| rX <| rX <| rX <| rX <| rX <| rX <| rX <| rX <| rX <| rX <| rX <| rN), (hN), rfl, rfl, (roN)⟩⟩
   ·show Exists _
    exact ⟨(n0, ((s224.take s224.length).drop 1)), h, Nat.lt_succ_self _, (fun i => i), ⟨(rE rfl <| rX <| rX <| rX <| rX <| rX <| rX <| rX <| rX <| rX <| rX <| rX <| rX <| rX <| rX <| rX <| rX <| rX <| rX <| rX <| rX <| rX <| rN), (hN), rfl, rfl, (roN)⟩⟩
  ·obtain ⟨y287, hy288, h⟩ := Q58 h
   refine Q3m (Qa9 hy288 Qjm) ?_
   refine Qid (c := (cI .u8)) (e := 1) (fun _ => rfl) Qk6 hy288 (off := 0) (by decide) (by first | omega | (simp only [Gf, orI, Qpb, Qan, Jq, Q21]; omega)) ?_
   obtain ⟨y289, hy290, h⟩ := Q58 h
   refine Q3m (Qa9 hy290 Qjc) ?_
   refine Qid (c := cUU) (e := 2) (fun _ => rfl) Qkj hy290 (off := 0) (by decide) (by first | omega | (simp only [Gf, orI, Qpb, Qan, Jq, Q21]; omega)) ?_
   apply iU h <;> intro h
   ·refine Qd ?_
    apply iU h <;> intro h
    ·cases h; exact (.p _)
    ·refine xB h fun b293 h => ?_
     apply iU h <;> intro h
     ·cases h; exact (.p _)
     ·refine xB h fun b296 h => ?_
      apply iU h <;> intro h
      ·cases h; exact (.p _)
      ·refine kU h fun h => ?_
       show Exists _
       exact ⟨(n0, ((s224.take s224.length).drop 2)), h, Nat.lt_succ_self _, (fun i => i), ⟨(rE rfl <| rX <| rX <| rX <| rX <| rX <| rX <| rX <| rX <| rX <| rX <| rX <| rX <| rX <| rX <| rX <| rX <| rX <| rX <| rX <| rX <| rX <| rN), (hN), rfl, rfl, (roN)⟩⟩
   ·apply iU h <;> intro h
    ·refine Qd ?_
     apply iU h <;> intro h
     ·cases h; exact (.p _)
     ·refine xB h fun b302 h => ?_
      apply iU h <;> intro h
      ·cases h; exact (.p _)
      ·refine xB h fun b305 h => ?_
       apply iU h <;> intro h
       ·cases h; exact (.p _)
       ·refine xB h fun b308 h => ?_
        apply iU h <;> intro h
        ·cases h; exact (.p _)
        ·refine xB h fun b311 h => ?_
         apply iU h <;> intro h
         ·cases h; exact (.p _)
         ·refine kU h fun h => ?_
          show Exists _
          exact ⟨(n0, ((s224.take s224.length).drop 3)), h, Nat.lt_succ_self _, (fun i => i), ⟨(rE rfl <| rX <| rX <| rX <| rX <| rX <| rX <| rX <| rX <| rX <| rX <| rX <| rX <| rX <| rX <| rX <| rX <| rX <| rX <| rX <| rX <| rX <| rN), (hN), rfl, rfl, (roN)⟩⟩
    ·apply iU h <;> intro h
     ·refine Qd ?_
      apply iU h <;> intro h
      ·cases h; exact (.p _)
      ·refine xB h fun b317 h => ?_
       apply iU h <;> intro h
       ·cases h; exact (.p _)
       ·refine xB h fun b320 h => ?_
        apply iU h <;> intro h
        ·cases h; exact (.p _)
        ·refine xB h fun b323 h => ?_
         apply iU h <;> intro h
         ·cases h; exact (.p _)
         ·refine xB h fun b326 h => ?_
          apply iU h <;> intro h
          ·cases h; exact (.p _)
          ·refine xB h fun b329 h => ?_
           apply iU h <;> intro h
           ·cases h; exact (.p _)
           ·refine xB h fun b332 h => ?_
            apply iU h <;> intro h
            ·cases h; exact (.p _)
            ·refine kU h fun h => ?_
             show Exists _
             exact ⟨(n0, ((s224.take s224.length).drop 4)), h, Nat.lt_succ_self _, (fun i => i), ⟨(rE rfl <| rX <| rX <| rX <| rX <| rX <| rX <| rX <| rX <| rX <| rX <| rX <| rX <| rX <| rX <| rX <| rX <| rX <| rX <| rX <| rX <| rX <| rN), (hN), rfl, rfl, (roN)⟩⟩
     ·cases h; exact (.p _)
 ·cases h; exact (.p _)
def We (N : Nat) (v : Q0) : Nat → Int → Option (Int)
 | 0, _ => none
 | n + 1, s15 =>
  cond (Q5 .lss s15 (v.Text.length : Int))
  ((idx v.Text s15).bind fun b17 =>
  cond (Q5 .geq (b17.toNat : Int) 128)
  (some 6)
  (We N v n (IntKind.wrap .i64 (s15 + 1))))
  (some 0)
def X6 (N : Nat) (v : Q0) : Option (Int) :=
 cond (Q5 .eql v.Kind 20)
 ((Xc N v.Text).bind fun v2 =>
 cond (!v2)
 (some 6)
 (some 0))
 (cond (Q5 .eql v.Kind 21)
 (We N v N 0)
 (some 0))
theorem Wh {N} {v} {r} (h : X6 N v = some r) : Y9 Tryd.prog G1 96 [.agg (Q0.cells v)] (.int .i64 r) := by
 refine Q6 k96 ?_
 unfold X6 at h
 apply iU h <;> intro h
 ·refine cP h Jj p1 fun v2 h => ?_
  apply iU h <;> intro h
  ·cases h; exact (.p _)
  ·cases h; exact (.p _)
 ·apply iU h <;> intro h
  ·refine lpC (τ := Int) (fun s15 => (.any :: .ptr 0 0 :: a8 (a4 (a2 (iI (v.Text.length : Int) :: iI s15 :: a8 ([])))) : List AV)) (fun _ => (.cells (iI v.Kind :: iW v.N' :: iS v.Text :: .p (.slice 4 (Q0.rows v.Items)) :: []) :: [] : List AObj)) (fun n0 s15 => We N v n0 s15) (0) h (fun i => i) ⟨(rA <| rE rfl <| rX <| rV <| rW <| rE rfl <| rE rfl <| rX <| rN), (hE rfl <| hN), rfl, rfl, (roE rfl <| roN)⟩ fun n0 s15 h => ?_
   simp only [We] at h
   apply iU h <;> intro h
   ·refine xB h fun b17 h => ?_
    apply iU h <;> intro h
    ·cases h; exact (.p _)
    ·show Exists _
     exact ⟨(n0, (IntKind.wrap .i64 (s15 + 1))), h, Nat.lt_succ_self _, (fun i => i), ⟨(rA <| rE rfl <| rX <| rV <| rW <| rE rfl <| rE rfl <| rX <| rN), (hE rfl <| hN), rfl, rfl, (roE rfl <| roN)⟩⟩
   ·cases h; exact (.p _)
  ·cases h; exact (.p _)
def Ww (_N : Nat) (n_0 : Int) (bits : Int) (signed : Bool) : Option (Bool) :=
 cond signed
 (cond (decide (0 ≤ (IntKind.wrap .i64 (bits - 1)))) (cond (Q5 .geq (IntKind.wrap .i64 n_0) (Jq .i64 (-1) (IntKind.wrap .i64 (bits - 1))))
 (some (Q5 .leq (IntKind.wrap .i64 n_0) (IntKind.wrap .i64 (0 - (IntKind.wrap .i64 ((Jq .i64 (-1) (IntKind.wrap .i64 (bits - 1))) + 1))))))
 (some false)) none)
 (cond (Q5 .eql bits 64)
 (some true)
 (cond (decide (0 ≤ bits)) (some (Q5 .eql (Q21 .u64 n_0 bits) 0)) none))
theorem Q23 {N} {n_0} {bits} {signed} {r} (h : Ww N n_0 bits signed = some r) : Y9 Tryd.prog G1 93 [.int .u64 n_0, .int .i64 bits, .bool signed] (.bool r) := by
 refine Q6 k93 ?_
 unfold Ww at h
 apply iU h <;> intro h
 ·refine kU h fun h => ?_
  apply iU h <;> intro h
  ·cases h; exact (.p _)
  ·cases h; exact (.p _)
 ·apply iU h <;> intro h
  ·cases h; exact (.p _)
  ·refine kU h fun h => ?_
   cases h; exact (.p _)
def Xy (_N : Nat) (r_0 : Int) : Option (Bool) :=
 cond (Q5 .leq 0 r_0)
 (cond (Q5 .lss r_0 55296)
 (some true)
 (cond (Q5 .lss 57343 r_0)
 (cond (Q5 .leq r_0 1114111)
 (some true)
 (some false))
 (some false)))
 (cond (Q5 .lss 57343 r_0)
 (cond (Q5 .leq r_0 1114111)
 (some true)
 (some false))
 (some false))
theorem Gh {N} {r_0} {r} (h : Xy N r_0 = some r) : Y9 Tryd.prog G1 105 [.int .i32 r_0] (.bool r) := by
 refine Q6 Qqq ?_
 unfold Xy at h
 apply iU h <;> intro h
 ·apply iU h <;> intro h
  ·cases h; exact (.p _)
  ·apply iU h <;> intro h
   ·apply iU h <;> intro h
    ·cases h; exact (.p _)
    ·cases h; exact (.p _)
   ·cases h; exact (.p _)
 ·apply iU h <;> intro h
  ·apply iU h <;> intro h
   ·cases h; exact (.p _)
   ·cases h; exact (.p _)
  ·cases h; exact (.p _)
def Wk (N : Nat) (n_0 : Int) : Option (Bool) :=
 cond (Q5 .leq n_0 1114111)
 ((Xy N (IntKind.wrap .i32 n_0)).bind fun v2 =>
 some v2)
 (some false)
theorem Q1j {N} {n_0} {r} (h : Wk N n_0 = some r) : Y9 Tryd.prog G1 94 [.int .u64 n_0] (.bool r) := by
 refine Q6 k94 ?_
 unfold Wk at h
 apply iU h <;> intro h
 ·refine cP h Gh p1 fun v2 h => ?_
  cases h; exact (.p _)
 ·cases h; exact (.p _)
def Wf (_N : Nat) (kind : Int) : Option (Bool) :=
 cond (Q5 .eql kind 15)
 (some true)
 (cond (Q5 .eql kind 18)
 (some true)
 (cond (Q5 .eql kind 19)
 (some true)
 (cond (Q5 .eql kind 20)
 (some true)
 (cond (Q5 .eql kind 21)
 (some true)
 (some false)))))
theorem Jn {N} {kind} {r} (h : Wf N kind = some r) : Y9 Tryd.prog G1 95 [.int .i64 kind] (.bool r) := by
 refine Q6 k95 ?_
 unfold Wf at h
 refine ifO h (fun hc1 h => ?_) (fun hc1 h => ?_)
 ·refine ifT hc1 ?_
  cases h; exact (.p _)
 ·refine ifO h (fun hc2 h => ?_) (fun hc2 h => ?_)
  ·refine ifT hc2 ?_
   cases h; exact (.p _)
  ·refine ifO h (fun hc3 h => ?_) (fun hc3 h => ?_)
   ·refine ifT hc3 ?_
    cases h; exact (.p _)
   ·refine ifO h (fun hc4 h => ?_) (fun hc4 h => ?_)
    ·refine ifT hc4 ?_
     cases h; exact (.p _)
    ·apply iU h <;> intro h
     ·cases h; exact (.p _)
     ·cases h; exact (.p _)
def Xs (N : Nat) (v : Q0) : Option (Int) :=
 cond (Q5 .lss v.Kind 1)
 (some 8)
 (cond (Q5 .gtr v.Kind 21)
 (some 8)
 ((Vd N v.Kind).bind fun v3 =>
 (Ww N v.N' v3.1 v3.2).bind fun v5 =>
 cond (!v5)
 (some 2)
 (cond (Q5 .eql v.Kind 16)
 ((Wk N v.N').bind fun v9 =>
 cond (!v9)
 (some 2)
 (cond (Q5 .neq ((Q0.rows v.Items).length : Int) 0)
 (some 2)
 ((Wf N v.Kind).bind fun v13 =>
 cond (!v13)
 (cond (Q66 .neq v.Text [])
 (some 2)
 (some 0))
 (cond (Q5 .eql v.Kind 15)
 (cond (Q5 .neq (v.Text.length : Int) 16)
 (some 2)
 (cond (Q5 .gtr (v.Text.length : Int) 1048576)
 (some 4)
 ((X6 N v).bind fun v20 =>
 some v20)))
 (cond (Q5 .eql v.Kind 18)
 (cond (Q5 .neq (v.Text.length : Int) 16)
 (some 2)
 (cond (Q5 .gtr (v.Text.length : Int) 1048576)
 (some 4)
 ((X6 N v).bind fun v25 =>
 some v25)))
 (cond (Q5 .gtr (v.Text.length : Int) 1048576)
 (some 4)
 ((X6 N v).bind fun v28 =>
 some v28)))))))
 (cond (Q5 .neq ((Q0.rows v.Items).length : Int) 0)
 (some 2)
 ((Wf N v.Kind).bind fun v31 =>
 cond (!v31)
 (cond (Q66 .neq v.Text [])
 (some 2)
 (some 0))
 (cond (Q5 .eql v.Kind 15)
 (cond (Q5 .neq (v.Text.length : Int) 16)
 (some 2)
 (cond (Q5 .gtr (v.Text.length : Int) 1048576)
 (some 4)
 ((X6 N v).bind fun v38 =>
 some v38)))
 (cond (Q5 .eql v.Kind 18)
 (cond (Q5 .neq (v.Text.length : Int) 16)
 (some 2)
 (cond (Q5 .gtr (v.Text.length : Int) 1048576)
 (some 4)
 ((X6 N v).bind fun v43 =>
 some v43)))
 (cond (Q5 .gtr (v.Text.length : Int) 1048576)
 (some 4)
 ((X6 N v).bind fun v46 =>
 some v46)))))))))
theorem Vi {N} {v} {r} (h : Xs N v = some r) : Y9 Tryd.prog G1 73 [.agg (Q0.cells v)] (.int .i64 r) := by
 refine Q6 k73 ?_
 unfold Xs at h
 apply iU h <;> intro h
 ·cases h; exact (.p _)
 ·apply iU h <;> intro h
  ·cases h; exact (.p _)
  ·refine cP h Q0d p1 fun v3 h => ?_
   refine cP h Q23 p3 fun v5 h => ?_
   apply iU h <;> intro h
   ·cases h; exact (.p _)
   ·apply iU h <;> intro h
    ·refine cP h Q1j p1 fun v9 h => ?_
     apply iU h <;> intro h
     ·cases h; exact (.p _)
     ·apply iU h <;> intro h
      ·cases h; exact (.p _)
      ·refine cP h Jn p1 fun v13 h => ?_
       apply iU h <;> intro h
       ·apply iU h <;> intro h
        ·cases h; exact (.p _)
        ·cases h; exact (.p _)
       ·apply iU h <;> intro h
        ·apply iU h <;> intro h
         ·cases h; exact (.p _)
         ·apply iU h <;> intro h
          ·cases h; exact (.p _)
          ·refine cP h Wh (.cons q4 .nil) fun v20 h => ?_
           cases h; exact (.p _)
        ·apply iU h <;> intro h
         ·apply iU h <;> intro h
          ·cases h; exact (.p _)
          ·apply iU h <;> intro h
           ·cases h; exact (.p _)
           ·refine cP h Wh (.cons q4 .nil) fun v25 h => ?_
            cases h; exact (.p _)
         ·apply iU h <;> intro h
          ·cases h; exact (.p _)
          ·refine cP h Wh (.cons q4 .nil) fun v28 h => ?_
           cases h; exact (.p _)
    ·apply iU h <;> intro h
     ·cases h; exact (.p _)
     ·refine cP h Jn p1 fun v31 h => ?_
      apply iU h <;> intro h
      ·apply iU h <;> intro h
       ·cases h; exact (.p _)
       ·cases h; exact (.p _)
      ·apply iU h <;> intro h
       ·apply iU h <;> intro h
        ·cases h; exact (.p _)
        ·apply iU h <;> intro h
         ·cases h; exact (.p _)
         ·refine cP h Wh (.cons q4 .nil) fun v38 h => ?_
          cases h; exact (.p _)
       ·apply iU h <;> intro h
        ·apply iU h <;> intro h
         ·cases h; exact (.p _)
         ·apply iU h <;> intro h
          ·cases h; exact (.p _)
          ·refine cP h Wh (.cons q4 .nil) fun v43 h => ?_
           cases h; exact (.p _)
        ·apply iU h <;> intro h
         ·cases h; exact (.p _)
         ·refine cP h Wh (.cons q4 .nil) fun v46 h => ?_
          cases h; exact (.p _)
def Uq (N : Nat) (code : Int) (s_1 : List UInt8) : Option (Q0 × Int × Int) :=
 (Wd N code).bind fun v1 =>
 cond (!v1.2)
 (some ((⟨0, 0, [], []⟩ : Q0), 0, 8))
 (cond v1.1.Items
 (some ((⟨0, 0, [], []⟩ : Q0), 0, 8))
 (cond v1.1.Sized
 ((Qn N (⟨s_1, 0, 0⟩ : Q1) v1.1.Width).bind fun v6 =>
 (Qs N v6.2).bind fun v8 =>
 cond (Q5 .gtr v6.1 (IntKind.wrap .u64 v8.1))
 (some ((⟨0, 0, [], []⟩ : Q0), 0, 3))
 ((Qi N v8.2 (IntKind.wrap .i64 v6.1)).bind fun v11 =>
 (Qe N v11.2).bind fun v13 =>
 cond (Q5 .neq v13.1 0)
 ((Qe N v13.2).bind fun v16 =>
 some ((⟨0, 0, [], []⟩ : Q0), 0, v16.1))
 ((Xs N (⟨v1.1.Kind, 0, v11.1, []⟩ : Q0)).bind fun v18 =>
 cond (Q5 .eql v18 0)
 ((Qj N v13.2).bind fun v21 =>
 some ((⟨v1.1.Kind, 0, v11.1, []⟩ : Q0), v21.1, 0))
 (cond (Q5 .eql v18 2)
 (some ((⟨0, 0, [], []⟩ : Q0), 0, 5))
 (some ((⟨0, 0, [], []⟩ : Q0), 0, v18))))))
 (cond (Q5 .eql v1.1.Width 16)
 ((Qi N (⟨s_1, 0, 0⟩ : Q1) 16).bind fun v25 =>
 (Qe N v25.2).bind fun v27 =>
 cond (Q5 .neq v27.1 0)
 ((Qe N v27.2).bind fun v30 =>
 some ((⟨0, 0, [], []⟩ : Q0), 0, v30.1))
 ((Xs N (⟨v1.1.Kind, 0, v25.1, []⟩ : Q0)).bind fun v32 =>
 cond (Q5 .eql v32 0)
 ((Qj N v27.2).bind fun v35 =>
 some ((⟨v1.1.Kind, 0, v25.1, []⟩ : Q0), v35.1, 0))
 (cond (Q5 .eql v32 2)
 (some ((⟨0, 0, [], []⟩ : Q0), 0, 5))
 (some ((⟨0, 0, [], []⟩ : Q0), 0, v32)))))
 (cond (Q5 .eql v1.1.Code 65)
 ((Qe N (⟨s_1, 0, 0⟩ : Q1)).bind fun v39 =>
 cond (Q5 .neq v39.1 0)
 ((Qe N v39.2).bind fun v42 =>
 some ((⟨0, 0, [], []⟩ : Q0), 0, v42.1))
 ((Xs N (⟨v1.1.Kind, 1, [], []⟩ : Q0)).bind fun v44 =>
 cond (Q5 .eql v44 0)
 ((Qj N v39.2).bind fun v47 =>
 some ((⟨v1.1.Kind, 1, [], []⟩ : Q0), v47.1, 0))
 (cond (Q5 .eql v44 2)
 (some ((⟨0, 0, [], []⟩ : Q0), 0, 5))
 (some ((⟨0, 0, [], []⟩ : Q0), 0, v44)))))
 ((Qn N (⟨s_1, 0, 0⟩ : Q1) v1.1.Width).bind fun v50 =>
 (Vs N v1.1 v50.1).bind fun v52 =>
 (Qe N v50.2).bind fun v54 =>
 cond (Q5 .neq v54.1 0)
 ((Qe N v54.2).bind fun v57 =>
 some ((⟨0, 0, [], []⟩ : Q0), 0, v57.1))
 ((Xs N (⟨v1.1.Kind, v52, [], []⟩ : Q0)).bind fun v59 =>
 cond (Q5 .eql v59 0)
 ((Qj N v54.2).bind fun v62 =>
 some ((⟨v1.1.Kind, v52, [], []⟩ : Q0), v62.1, 0))
 (cond (Q5 .eql v59 2)
 (some ((⟨0, 0, [], []⟩ : Q0), 0, 5))
 (some ((⟨0, 0, [], []⟩ : Q0), 0, v59)))))))))
theorem Q5t {N} {code} {s_1} {r} (h : Uq N code s_1 = some r) : Y9 Tryd.prog G1 47 [.int .i64 code, .str s_1] (.tuple [.agg (Q0.cells r.1), .int .i64 r.2.1, .int .i64 r.2.2]) := by
 refine Q6 k47 ?_
 unfold Uq at h
 refine cP h Uw p1 fun v1 h => ?_
 apply iU h <;> intro h
 ·obtain rfl := Qm h; exact (Frz.tuple' (.cons q4n p2))
 ·apply iU h <;> intro h
  ·obtain rfl := Qm h; exact (Frz.tuple' (.cons q4n p2))
  ·refine Jr k67 ?_
   apply iU h <;> intro h
   ·refine cM h Zx rfl p1 fun v6 h => ?_
    refine cM h Zj rfl p0 fun v8 h => ?_
    apply iU h <;> intro h
    ·obtain rfl := Qm h; exact (Frz.tuple' (.cons q4n p2))
    ·refine cM h Qq rfl p1 fun v11 h => ?_
     refine cM h Z2 rfl p0 fun v13 h => ?_
     apply iU h <;> intro h
     ·refine cM h Z2 rfl p0 fun v16 h => ?_
      obtain rfl := Qm h; exact (Frz.tuple' (.cons q4n p2))
     ·refine cP h Vi (.cons q4n .nil) fun v18 h => ?_
      apply iU h <;> intro h
      ·refine Qd ?_
       refine dM h Zm rfl p0 fun v21 h => ?_
       obtain rfl := Qm h; exact (Frz.tuple' (.cons q4n p2))
      ·apply iU h <;> intro h
       ·obtain rfl := Qm h; exact (Frz.tuple' (.cons q4n p2))
       ·obtain rfl := Qm h; exact (Frz.tuple' (.cons q4n p2))
   ·apply iU h <;> intro h
    ·refine cM h Qq rfl p1 fun v25 h => ?_
     refine cM h Z2 rfl p0 fun v27 h => ?_
     apply iU h <;> intro h
     ·refine cM h Z2 rfl p0 fun v30 h => ?_
      obtain rfl := Qm h; exact (Frz.tuple' (.cons q4n p2))
     ·refine cP h Vi (.cons q4n .nil) fun v32 h => ?_
      apply iU h <;> intro h
      ·refine Qd ?_
       refine dM h Zm rfl p0 fun v35 h => ?_
       obtain rfl := Qm h; exact (Frz.tuple' (.cons q4n p2))
      ·apply iU h <;> intro h
       ·obtain rfl := Qm h; exact (Frz.tuple' (.cons q4n p2))
       ·obtain rfl := Qm h; exact (Frz.tuple' (.cons q4n p2))
    ·apply iU h <;> intro h
     ·refine cM h Z2 rfl p0 fun v39 h => ?_
      apply iU h <;> intro h
      ·refine cM h Z2 rfl p0 fun v42 h => ?_
       obtain rfl := Qm h; exact (Frz.tuple' (.cons q4n p2))
      ·refine cP h Vi (.cons q4n .nil) fun v44 h => ?_
       apply iU h <;> intro h
       ·refine Qd ?_
        refine dM h Zm rfl p0 fun v47 h => ?_
        obtain rfl := Qm h; exact (Frz.tuple' (.cons q4n p2))
       ·apply iU h <;> intro h
        ·obtain rfl := Qm h; exact (Frz.tuple' (.cons q4n p2))
        ·obtain rfl := Qm h; exact (Frz.tuple' (.cons q4n p2))
     ·refine Qd ?_
      refine dM h Zx rfl p1 fun v50 h => ?_
      refine cD h Q41 (.cons (Frz.agg' p5) p1) fun v52 h => ?_
      refine cM h Z2 rfl p0 fun v54 h => ?_
      apply iU h <;> intro h
      ·refine cM h Z2 rfl p0 fun v57 h => ?_
       obtain rfl := Qm h; exact (Frz.tuple' (.cons q4n p2))
      ·refine cP h Vi (.cons q4n .nil) fun v59 h => ?_
       apply iU h <;> intro h
       ·refine Qd ?_
        refine dM h Zm rfl p0 fun v62 h => ?_
        obtain rfl := Qm h; exact (Frz.tuple' (.cons q4n p2))
       ·apply iU h <;> intro h
        ·obtain rfl := Qm h; exact (Frz.tuple' (.cons q4n p2))
        ·obtain rfl := Qm h; exact (Frz.tuple' (.cons q4n p2))
end
end
end Go.Av
