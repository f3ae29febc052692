/- The law. Part of a proof of a given statement: for every input the law returns true and the arguments read as before; no condition beyond the given row. -/
import Derived.Test.YtkemhhfbpniioaaGreatDoorLiftF0
namespace Go.Av
noncomputable section
open Go.Proofs
set_option maxRecDepth 100000
set_option maxHeartbeats 4000000
attribute [local irreducible] Jf Ws Q9a Qa6 Q5 Q36 Qfw
section
def V1 (R_amqcanon_formOf : Q0 → Option (Q1)) (N : Nat) (v : Q0) : Nat → Int → (List Q1) → Option (Q1)
 | 0, _, _ => none
 | n + 1, s14, l15 =>
  cond (Q5 .lss s14 ((Q0.rows v.Items).length : Int))
  ((idx v.Items s14).bind fun y17 =>
  (R_amqcanon_formOf y17).bind fun v19 =>
  cond (Nat.ble ((l15.length + 1 + 4096) * 96) 17592186044416) (V1 R_amqcanon_formOf N v n (IntKind.wrap .i64 (s14 + 1)) (l15 ++ [v19])) none)
  (cond (Q5 .eql v.Kind 24)
  ((U5 N (IntKind.wrap .i64 v.N') l15).bind fun v23 =>
  cond ((v.Kind : Int) == 22)
  ((Zv N (⟨v, l15, v23, 0⟩ : Q1)).bind fun v26 =>
  some (⟨v, l15, v23, v26⟩ : Q1))
  (cond ((v.Kind : Int) == 23)
  ((Zv N (⟨v, l15, v23, 0⟩ : Q1)).bind fun v29 =>
  some (⟨v, l15, v23, v29⟩ : Q1))
  (cond ((v.Kind : Int) == 24)
  ((Vk N (⟨v, l15, v23, 0⟩ : Q1)).bind fun v32 =>
  some (⟨v, l15, v23, v32⟩ : Q1))
  (some (⟨v, l15, v23, 0⟩ : Q1)))))
  (cond ((v.Kind : Int) == 22)
  ((Zv N (⟨v, l15, 0, 0⟩ : Q1)).bind fun v35 =>
  some (⟨v, l15, 0, v35⟩ : Q1))
  (cond ((v.Kind : Int) == 23)
  ((Zv N (⟨v, l15, 0, 0⟩ : Q1)).bind fun v38 =>
  some (⟨v, l15, 0, v38⟩ : Q1))
  (cond ((v.Kind : Int) == 24)
  ((Vk N (⟨v, l15, 0, 0⟩ : Q1)).bind fun v41 =>
  some (⟨v, l15, 0, v41⟩ : Q1))
  (some (⟨v, l15, 0, 0⟩ : Q1))))))
def Q11 (R_amqcanon_formOf : Q0 → Option (Q1)) (N : Nat) (v : Q0) : Option (Q1) :=
 V1 R_amqcanon_formOf N v N 0 []
theorem Q6j {R_amqcanon_formOf : Q0 → Option (Q1)} (hR_amqcanon_formOf : ∀ {v} {r}, R_amqcanon_formOf v = some r → Qz Tryz.prog G1 63 [.agg (Q0.cells v)] (.agg (Q1.cells r))) {N} {v} {r} (h : Q11 R_amqcanon_formOf N v = some r) : Qz Tryz.prog G1 63 [.agg (Q0.cells v)] (.agg (Q1.cells r)) := by
 refine Q4 k63 ?_
 unfold Q11 at h
 refine lpC (τ := Int × (List Q1)) (fun ⟨s14, _⟩ => (.any :: .ptr 0 0 :: .ptr 1 0 :: .ptr 2 0 :: a8 (.p (.slice 4 (Q0.rows v.Items)) :: iI ((Q0.rows v.Items).length : Int) :: iI s14 :: a16 (a16 (a4 ([])))) : List AV)) (fun ⟨_, l15⟩ => (.cells (iI v.Kind :: iW v.N' :: iS v.Text :: .p (.slice 4 (Q0.rows v.Items)) :: []) :: .cells (iI 0 :: iW 0 :: iS [] :: .p .nilSlice :: .p .nilSlice :: iI 0 :: iI 0 :: []) :: .cells (iI v.Kind :: iW v.N' :: iS v.Text :: .p (.slice 4 (Q0.rows v.Items)) :: .slice 7 3 0 l15.length :: iI 0 :: iI 0 :: []) :: .cells (Wt Q1.cells l15) :: [] : List AObj)) (fun n0 ⟨s14, l15⟩ => V1 R_amqcanon_formOf N v n0 s14 l15) (0, []) h (fun i => i) ⟨(rA <| rE rfl <| rE rfl <| rE rfl <| rX <| rE rfl <| rE rfl <| rE rfl <| rX <| rX <| rX <| rX <| rV <| rN), (hE rfl <| hE rfl <| hC rfl (rE rfl <| rE rfl <| rE rfl <| rE rfl <| rS <| rE rfl <| rE rfl <| rN) <| hV lb <| hN), rfl, rfl, (roE rfl <| roE rfl <| roE rfl <| roE (Qd _ _ _) <| roN)⟩ fun n0 ⟨s14, l15⟩ h => ?_
 simp only [V1] at h
 apply iU h <;> intro h
 ·refine Q0.xR h fun y17 h => ?_
  refine Qe ?_
  refine cD h hR_amqcanon_formOf (.cons q4 .nil) fun v19 h => ?_
  obtain ⟨hk21, h⟩ := Q7i h
  refine Q3q (Vr (c := Q1.cells) (e := 7) (fun _ => rfl) (by simp) hk21) ?_
  refine Jm (c := Q1.cells) [v19] rfl ?_
  show Exists _
  exact ⟨(n0, (IntKind.wrap .i64 (s14 + 1)), (l15 ++ [v19])), h, Nat.lt_succ_self _, (rho [0, 1, 2, 6]), ⟨(rA <| rE rfl <| rE rfl <| rE rfl <| rX <| rE rfl <| rE rfl <| rE rfl <| rX <| rX <| rX <| rX <| rV <| rN), (hE rfl <| hE rfl <| hC rfl (rE rfl <| rE rfl <| rE rfl <| rE rfl <| rL (by simp) rfl <| rE rfl <| rE rfl <| rN) <| hO rfl <| hN), rfl, rfl, (roE rfl <| roE rfl <| roE rfl <| roE (Qd _ _ _) <| roN)⟩⟩
 ·apply iU h <;> intro h
  ·refine cK h Q27 (.cons (.p _) (.cons (Q1.frz_own (l := l15) rfl trivial (by simp)) .nil)) fun v23 h => ?_
   apply iU h <;> intro h
   ·refine cK h Vu (.cons (Frz.agg' (.cons (.p _) (.cons (.p _) (.cons (.p _) (.cons (.p _) (.cons (Q1.frz_own (l := l15) rfl trivial (by simp)) p2)))))) .nil) fun v26 h => ?_
    obtain rfl := Qc h; exact (Frz.agg' (.cons (.p _) (.cons (.p _) (.cons (.p _) (.cons (.p _) (.cons (Q1.frz_own (l := l15) rfl trivial (by simp)) p2))))))
   ·apply iU h <;> intro h
    ·refine cK h Vu (.cons (Frz.agg' (.cons (.p _) (.cons (.p _) (.cons (.p _) (.cons (.p _) (.cons (Q1.frz_own (l := l15) rfl trivial (by simp)) p2)))))) .nil) fun v29 h => ?_
     obtain rfl := Qc h; exact (Frz.agg' (.cons (.p _) (.cons (.p _) (.cons (.p _) (.cons (.p _) (.cons (Q1.frz_own (l := l15) rfl trivial (by simp)) p2))))))
    ·apply iU h <;> intro h
     ·refine cK h Q09 (.cons (Frz.agg' (.cons (.p _) (.cons (.p _) (.cons (.p _) (.cons (.p _) (.cons (Q1.frz_own (l := l15) rfl trivial (by simp)) p2)))))) .nil) fun v32 h => ?_
      obtain rfl := Qc h; exact (Frz.agg' (.cons (.p _) (.cons (.p _) (.cons (.p _) (.cons (.p _) (.cons (Q1.frz_own (l := l15) rfl trivial (by simp)) p2))))))
     ·obtain rfl := Qc h; exact (Frz.agg' (.cons (.p _) (.cons (.p _) (.cons (.p _) (.cons (.p _) (.cons (Q1.frz_own (l := l15) rfl trivial (by simp)) p2))))))
  ·apply iU h <;> intro h
   ·refine cK h Vu (.cons (Frz.agg' (.cons (.p _) (.cons (.p _) (.cons (.p _) (.cons (.p _) (.cons (Q1.frz_own (l := l15) rfl trivial (by simp)) p2)))))) .nil) fun v35 h => ?_
    obtain rfl := Qc h; exact (Frz.agg' (.cons (.p _) (.cons (.p _) (.cons (.p _) (.cons (.p _) (.cons (Q1.frz_own (l := l15) rfl trivial (by simp)) p2))))))
   ·apply iU h <;> intro h
    ·refine cK h Vu (.cons (Frz.agg' (.cons (.p _) (.cons (.p _) (.cons (.p _) (.cons (.p _) (.cons (Q1.frz_own (l := l15) rfl trivial (by simp)) p2)))))) .nil) fun v38 h => ?_
     obtain rfl := Qc h; exact (Frz.agg' (.cons (.p _) (.cons (.p _) (.cons (.p _) (.cons (.p _) (.cons (Q1.frz_own (l := l15) rfl trivial (by simp)) p2))))))
    ·apply iU h <;> intro h
     ·refine cK h Q09 (.cons (Frz.agg' (.cons (.p _) (.cons (.p _) (.cons (.p _) (.cons (.p _) (.cons (Q1.frz_own (l := l15) rfl trivial (by simp)) p2)))))) .nil) fun v41 h => ?_
      obtain rfl := Qc h; exact (Frz.agg' (.cons (.p _) (.cons (.p _) (.cons (.p _) (.cons (.p _) (.cons (Q1.frz_own (l := l15) rfl trivial (by simp)) p2))))))
     ·obtain rfl := Qc h; exact (Frz.agg' (.cons (.p _) (.cons (.p _) (.cons (.p _) (.cons (.p _) (.cons (Q1.frz_own (l := l15) rfl trivial (by simp)) p2))))))
def Vd : Nat → Q0 → Option (Q1)
 | 0 => fun _ => none
 | N + 1 => Q11 (Vd N) N
theorem Q1k {N} {v} {r} (h : Vd N v = some r) : Qz Tryz.prog G1 63 [.agg (Q0.cells v)] (.agg (Q1.cells r)) := by
 induction N generalizing v r with
 | zero => simp [Vd] at h
 | succ N ih => exact Q6j (fun h => ih h) h
def U6 (N : Nat) (v : Q0) (most : Int) : Option ((List UInt8) × Int) :=
 (Uy N v most).bind fun v1 =>
 cond (Q5 .neq v1 0)
 (some ([], v1))
 ((X9 N v).bind fun v4 =>
 (Vd N v4).bind fun v6 =>
 (Ze N (⟨(⟨[]⟩ : Qy)⟩ : Q2) v6).bind fun v8 =>
 (U2 N v8.2.buffer).bind fun v10 =>
 some (v10.1, 0))
theorem Gz {N} {v} {most} {r} (h : U6 N v most = some r) : Qz Tryz.prog G1 17 [.agg (Q0.cells v), .int .i64 most] (.tuple [.str r.1, .int .i64 r.2]) := by
 refine Q4 k17 ?_
 unfold U6 at h
 refine cP h Q2f (.cons q4 p1) fun v1 h => ?_
 apply iU h <;> intro h
 ·obtain rfl := Qc h; exact u2
 ·refine cP h G4 (.cons q4 .nil) fun v4 h => ?_
  refine cP h Q1k p1 fun v6 h => ?_
  refine cG h Q2l fun v8 h => ?_
  refine ⟨rho [1, 3], (.cells (iI v.Kind :: iW v.N' :: iS v.Text :: .p (.slice 4 (Q0.rows v.Items)) :: []) :: .cells (.slice 1 2 0 v8.2.buffer.b.length :: []) :: .cells (Wt (cI .u8) v8.2.buffer.b) :: []), .tuple [], ⟨(rE rfl <| rE rfl <| rN), (hC rfl (rS <| rN) <| hV lb <| hN), rfl, rfl, (roE rfl <| roE (Qd _ _ _) <| roN), rfl, (fK rfl rfl <| fR 0 rfl rfl rfl rfl <| fO 2 rfl rfl rfl <| fN), rfl⟩, ?_⟩
  refine cG h Q2g fun v10 h => ?_
  refine ⟨rho [1, 2], (.cells (iI v.Kind :: iW v.N' :: iS v.Text :: .p (.slice 4 (Q0.rows v.Items)) :: []) :: .cells (.slice 1 3 0 v10.2.b.length :: []) :: .dead :: .cells (Wt (cI .u8) v10.2.b) :: []), iS v10.1, ⟨(rE rfl <| rN), (hE rfl <| hO rfl <| hN), rfl, rfl, (roE rfl <| roE (Qd _ _ _) <| roN), rfl, (fK rfl rfl <| fR 0 rfl rfl rfl rfl <| fD <| fO 2 rfl rfl rfl <| fN), rfl⟩, ?_⟩
  obtain rfl := Qc h; exact u2
def Q0d (_N : Nat) (kind : Int) (n_1 : Int) : Option (Q0) :=
 some (⟨kind, n_1, [], []⟩ : Q0)
theorem Q30 {N} {kind} {n_1} {r} (h : Q0d N kind n_1 = some r) : Qz Tryz.prog G1 39 [.int .i64 kind, .int .u64 n_1] (.agg (Q0.cells r)) := by
 refine Q4 k39 ?_
 unfold Q0d at h
 obtain rfl := Qc h; exact q4n
def J5 (N : Nat) : Option (Bool) :=
 (Q0d N 2 1).bind fun v1 =>
 (Q0d N 1 0).bind fun v3 =>
 (U6 N (⟨22, 0, [], [v1, v3]⟩ : Q0) 2).bind fun v5 =>
 cond (Q5 .eql v5.2 0)
 (some (Q36 .eql v5.1 [192, 3, 2, 65, 64]))
 (some false)
theorem Q42 {N} {r} (h : J5 N = some r) : Qz Tryz.prog G1 12 [] (.bool r) := by
 refine Q4 k12 ?_
 unfold J5 at h
 refine cP h Q30 p2 fun v1 h => ?_
 refine cP h Q30 p2 fun v3 h => ?_
 refine Q16 k30 ?_
 refine cK h Gz (.cons (Frz.agg' (.cons (.p _) (.cons (.p _) (.cons (.p _) (.cons (Q0.frz_own (l := [v1, v3]) rfl trivial (by simp)) .nil))))) p1) fun v5 h => ?_
 apply iU h <;> intro h
 ·cases h; exact (.p _)
 ·cases h; exact (.p _)
def Yx (N : Nat) (s_0 : List UInt8) : Nat → Int → Option (Bool)
 | 0, _ => none
 | n + 1, i10 =>
  cond (Q5 .lss i10 (s_0.length : Int))
  ((idx s_0 i10).bind fun b12 =>
  cond (Q5 .geq (b12.toNat : Int) 128)
  (some false)
  (Yx N s_0 n (IntKind.wrap .i64 (i10 + 1))))
  (some true)
def Qn (N : Nat) (s_0 : List UInt8) : Option (Bool) :=
 Yx N s_0 N 0
theorem Qt {N} {s_0} {r} (h : Qn N s_0 = some r) : Qz Tryz.prog G1 56 [.str s_0] (.bool r) := by
 refine Q4 k56 ?_
 unfold Qn at h
 refine lpC (τ := Int) (fun i10 => (iS s_0 :: .any :: .any :: iI i10 :: a8 (a2 ([])) : List AV)) (fun _ => ([] : List AObj)) (fun n0 i10 => Yx N s_0 n0 i10) (0) h (fun i => i) ⟨(rE rfl <| rW <| rE rfl <| rX <| rW <| rN), (hN), rfl, rfl, (roN)⟩ fun n0 i10 h => ?_
 simp only [Yx] at h
 apply iU h <;> intro h
 ·refine xB h fun b12 h => ?_
  apply iU h <;> intro h
  ·cases h; exact (.p _)
  ·show Exists _
   exact ⟨(n0, (IntKind.wrap .i64 (i10 + 1))), h, Nat.lt_succ_self _, (fun i => i), ⟨(rE rfl <| rW <| rE rfl <| rX <| rW <| rN), (hN), rfl, rfl, (roN)⟩⟩
 ·cases h; exact (.p _)
def Qk (_N : Nat) (kind : Int) : Option (Int) :=
 cond (Q5 .eql kind 2)
 (some 1)
 (cond (Q5 .eql kind 3)
 (some 8)
 (cond (Q5 .eql kind 4)
 (some 16)
 (cond (Q5 .eql kind 5)
 (some 32)
 (cond (Q5 .eql kind 11)
 (some 32)
 (cond (Q5 .eql kind 13)
 (some 32)
 (cond (Q5 .eql kind 16)
 (some 32)
 (cond (Q5 .eql kind 6)
 (some 64)
 (cond (Q5 .eql kind 12)
 (some 64)
 (cond (Q5 .eql kind 14)
 (some 64)
 (cond (Q5 .eql kind 17)
 (some 64)
 (cond (Q5 .eql kind 10)
 (some 64)
 (cond (Q5 .eql kind 7)
 (some (-8))
 (cond (Q5 .eql kind 8)
 (some (-16))
 (cond (Q5 .eql kind 9)
 (some (-32))
 (some 0)))))))))))))))
theorem Q0k {N} {kind} {r} (h : Qk N kind = some r) : Qz Tryz.prog G1 83 [.int .i64 kind] (.int .i64 r) := by
 refine Q4 k83 ?_
 unfold Qk at h
 apply iU h <;> intro h
 ·cases h; exact (.p _)
 ·apply iU h <;> intro h
  ·cases h; exact (.p _)
  ·apply iU h <;> intro h
   ·cases h; exact (.p _)
   ·refine ifO h (fun hc4 h => ?_) (fun hc4 h => ?_)
    ·refine ifT hc4 ?_
     cases h; exact (.p _)
    ·refine ifO h (fun hc5 h => ?_) (fun hc5 h => ?_)
     ·refine ifT hc5 ?_
      cases h; exact (.p _)
     ·refine ifO h (fun hc6 h => ?_) (fun hc6 h => ?_)
      ·refine ifT hc6 ?_
       cases h; exact (.p _)
      ·apply iU h <;> intro h
       ·cases h; exact (.p _)
       ·refine ifO h (fun hc8 h => ?_) (fun hc8 h => ?_)
        ·refine ifT hc8 ?_
         cases h; exact (.p _)
        ·refine ifO h (fun hc9 h => ?_) (fun hc9 h => ?_)
         ·refine ifT hc9 ?_
          cases h; exact (.p _)
         ·refine ifO h (fun hc10 h => ?_) (fun hc10 h => ?_)
          ·refine ifT hc10 ?_
           cases h; exact (.p _)
          ·refine ifO h (fun hc11 h => ?_) (fun hc11 h => ?_)
           ·refine ifT hc11 ?_
            cases h; exact (.p _)
           ·apply iU h <;> intro h
            ·cases h; exact (.p _)
            ·apply iU h <;> intro h
             ·cases h; exact (.p _)
             ·apply iU h <;> intro h
              ·cases h; exact (.p _)
              ·apply iU h <;> intro h
               ·cases h; exact (.p _)
               ·cases h; exact (.p _)
def U9 (_N : Nat) (n_0 : Int) : Option (Bool) :=
 cond (Q5 .leq n_0 1114111)
 (cond (Q5 .lss n_0 55296)
 (some true)
 (some (Q5 .gtr n_0 57343)))
 (some false)
theorem Q4l {N} {n_0} {r} (h : U9 N n_0 = some r) : Qz Tryz.prog G1 84 [.int .u64 n_0] (.bool r) := by
 refine Q4 k84 ?_
 unfold U9 at h
 apply iU h <;> intro h
 ·apply iU h <;> intro h
  ·cases h; exact (.p _)
  ·cases h; exact (.p _)
 ·cases h; exact (.p _)
def Zl (_N : Nat) (n_0 : Int) (bits : Int) : Option (Bool) :=
 cond (decide (0 ≤ (IntKind.wrap .u64 (bits - 1)))) (cond (Q5 .lss n_0 (Gb .u64 1 (IntKind.wrap .u64 (bits - 1))))
 (some true)
 (some (Q5 .geq n_0 (IntKind.wrap .u64 (0 - (Gb .u64 1 (IntKind.wrap .u64 (bits - 1)))))))) none
theorem W9 {N} {n_0} {bits} {r} (h : Zl N n_0 bits = some r) : Qz Tryz.prog G1 85 [.int .u64 n_0, .int .u64 bits] (.bool r) := by
 refine Q4 k85 ?_
 unfold Zl at h
 refine kU h fun h => ?_
 apply iU h <;> intro h
 ·cases h; exact (.p _)
 ·cases h; exact (.p _)
def W5 (N : Nat) (v : Q0) : Option (Bool) :=
 (Qk N v.Kind).bind fun v1 =>
 cond (Q5 .eql v.Kind 16)
 ((U9 N v.N').bind fun v4 =>
 some v4)
 (cond (Q5 .eql v1 0)
 (some (Q5 .eql v.N' 0))
 (cond (Q5 .lss v1 0)
 ((Zl N v.N' (IntKind.wrap .u64 (IntKind.wrap .i64 (0 - v1)))).bind fun v8 =>
 some v8)
 (cond (Q5 .eql v1 64)
 (some true)
 (cond (decide (0 ≤ (IntKind.wrap .u64 v1))) (some (Q5 .lss v.N' (Gb .u64 1 (IntKind.wrap .u64 v1)))) none))))
theorem Gp {N} {v} {r} (h : W5 N v = some r) : Qz Tryz.prog G1 53 [.agg (Q0.cells v)] (.bool r) := by
 refine Q4 k53 ?_
 unfold W5 at h
 refine cP h Q0k p1 fun v1 h => ?_
 apply iU h <;> intro h
 ·refine cP h Q4l p1 fun v4 h => ?_
  cases h; exact (.p _)
 ·apply iU h <;> intro h
  ·cases h; exact (.p _)
  ·apply iU h <;> intro h
   ·refine cP h W9 p2 fun v8 h => ?_
    cases h; exact (.p _)
   ·apply iU h <;> intro h
    ·cases h; exact (.p _)
    ·refine kU h fun h => ?_
     cases h; exact (.p _)
def Wj (_N : Nat) (kind : Int) : Option (Bool) :=
 cond (Q5 .eql kind 15)
 (some true)
 (cond (Q5 .geq kind 18)
 (some (Q5 .leq kind 21))
 (some false))
theorem Q06 {N} {kind} {r} (h : Wj N kind = some r) : Qz Tryz.prog G1 54 [.int .i64 kind] (.bool r) := by
 refine Q4 k54 ?_
 unfold Wj at h
 apply iU h <;> intro h
 ·cases h; exact (.p _)
 ·apply iU h <;> intro h
  ·cases h; exact (.p _)
  ·cases h; exact (.p _)
def Qa (_N : Nat) (s_0 : List UInt8) (i : Int) (low : Int) (high : Int) : Option (Bool) :=
 cond (Q5 .lss i (s_0.length : Int))
 ((idx s_0 i).bind fun b2 =>
 cond (Q5 .geq (b2.toNat : Int) low)
 ((idx s_0 i).bind fun b5 =>
 some (Q5 .leq (b5.toNat : Int) high))
 (some false))
 (some false)
theorem Qg {N} {s_0} {i} {low} {high} {r} (h : Qa N s_0 i low high = some r) : Qz Tryz.prog G1 108 [.str s_0, .int .i64 i, .int .u8 low, .int .u8 high] (.bool r) := by
 refine Q4 Qz7 ?_
 unfold Qa at h
 apply iU h <;> intro h
 ·refine xB h fun b2 h => ?_
  apply iU h <;> intro h
  ·refine xB h fun b5 h => ?_
   cases h; exact (.p _)
  ·cases h; exact (.p _)
 ·cases h; exact (.p _)
def Zd (_N : Nat) (s139 : Bool) : Option (Int) :=
 cond s139
 (some 4)
 (some 0)
def Zx (N : Nat) (k4 : Bool → Option (Int)) (s_0 : List UInt8) (i : Int) (b1 : UInt8) (s170 : Bool) : Option (Int) :=
 cond s170
 (k4 s170)
 (cond (Q5 .eql (b1.toNat : Int) 244)
 ((Qa N s_0 (IntKind.wrap .i64 (i + 1)) 128 143).bind fun v183 =>
 cond v183
 ((Qa N s_0 (IntKind.wrap .i64 (i + 2)) 128 191).bind fun v186 =>
 cond v186
 ((Qa N s_0 (IntKind.wrap .i64 (i + 3)) 128 191).bind fun v189 =>
 k4 v189)
 (k4 false))
 (k4 false))
 (k4 false))
def Yf (N : Nat) (k4 : Bool → Option (Int)) (s_0 : List UInt8) (i : Int) (b1 : UInt8) (s149 : Bool) : Option (Int) :=
 cond s149
 (k4 s149)
 (cond (Q5 .geq (b1.toNat : Int) 241)
 (cond (Q5 .leq (b1.toNat : Int) 243)
 ((Qa N s_0 (IntKind.wrap .i64 (i + 1)) 128 191).bind fun v173 =>
 cond v173
 ((Qa N s_0 (IntKind.wrap .i64 (i + 2)) 128 191).bind fun v176 =>
 cond v176
 ((Qa N s_0 (IntKind.wrap .i64 (i + 3)) 128 191).bind fun v179 =>
 Zx N k4 s_0 i b1 v179)
 (Zx N k4 s_0 i b1 false))
 (Zx N k4 s_0 i b1 false))
 (Zx N k4 s_0 i b1 false))
 (Zx N k4 s_0 i b1 false))
def Zt (N : Nat) (s_0 : List UInt8) (i : Int) (b1 : UInt8) (s50 : Bool) : Option (Int) :=
 cond s50
 (some 3)
 (cond (Q5 .eql (b1.toNat : Int) 240)
 ((Qa N s_0 (IntKind.wrap .i64 (i + 1)) 144 191).bind fun v151 =>
 cond v151
 ((Qa N s_0 (IntKind.wrap .i64 (i + 2)) 128 191).bind fun v154 =>
 cond v154
 ((Qa N s_0 (IntKind.wrap .i64 (i + 3)) 128 191).bind fun v157 =>
 Yf N (Zd N) s_0 i b1 v157)
 (Yf N (Zd N) s_0 i b1 false))
 (Yf N (Zd N) s_0 i b1 false))
 (Yf N (Zd N) s_0 i b1 false))
def Xl (N : Nat) (k1 : Bool → Option (Int)) (s_0 : List UInt8) (i : Int) (b1 : UInt8) (s71 : Bool) : Option (Int) :=
 cond s71
 (k1 s71)
 (cond (Q5 .geq (b1.toNat : Int) 225)
 (cond (Q5 .leq (b1.toNat : Int) 239)
 (cond (Q5 .neq (b1.toNat : Int) 237)
 ((Qa N s_0 (IntKind.wrap .i64 (i + 1)) 128 191).bind fun v82 =>
 cond v82
 ((Qa N s_0 (IntKind.wrap .i64 (i + 2)) 128 191).bind fun v85 =>
 k1 v85)
 (k1 false))
 (k1 false))
 (k1 false))
 (k1 false))
def Xn (N : Nat) (k1 : Bool → Option (Int)) (s_0 : List UInt8) (i : Int) (b1 : UInt8) (s57 : Bool) : Option (Int) :=
 cond s57
 (k1 s57)
 (cond (Q5 .eql (b1.toNat : Int) 237)
 ((Qa N s_0 (IntKind.wrap .i64 (i + 1)) 128 159).bind fun v73 =>
 cond v73
 ((Qa N s_0 (IntKind.wrap .i64 (i + 2)) 128 191).bind fun v76 =>
 Xl N k1 s_0 i b1 v76)
 (Xl N k1 s_0 i b1 false))
 (Xl N k1 s_0 i b1 false))
def Xh (N : Nat) (s_0 : List UInt8) (i : Int) (b1 : UInt8) (s8 : Bool) : Option (Int) :=
 cond s8
 (some 2)
 (cond (Q5 .eql (b1.toNat : Int) 224)
 ((Qa N s_0 (IntKind.wrap .i64 (i + 1)) 160 191).bind fun v59 =>
 cond v59
 ((Qa N s_0 (IntKind.wrap .i64 (i + 2)) 128 191).bind fun v62 =>
 Xn N (Zt N s_0 i b1) s_0 i b1 v62)
 (Xn N (Zt N s_0 i b1) s_0 i b1 false))
 (Xn N (Zt N s_0 i b1) s_0 i b1 false))
def U8 (N : Nat) (s_0 : List UInt8) (i : Int) : Option (Int) :=
 (idx s_0 i).bind fun b1 =>
 cond (Q5 .lss (b1.toNat : Int) 128)
 (some 1)
 (cond (Q5 .geq (b1.toNat : Int) 194)
 (cond (Q5 .leq (b1.toNat : Int) 223)
 ((Qa N s_0 (IntKind.wrap .i64 (i + 1)) 128 191).bind fun v11 =>
 Xh N s_0 i b1 v11)
 (Xh N s_0 i b1 false))
 (Xh N s_0 i b1 false))
theorem Q52 {N} {s_0} {i} {r} (h : U8 N s_0 i = some r) : Qz Tryz.prog G1 86 [.str s_0, .int .i64 i] (.int .i64 r) := by
 refine Q4 k86 ?_
 unfold U8 at h
 refine xB h fun b1 h => ?_
 apply iU h <;> intro h
 ·cases h; exact (.p _)
 ·refine J2 (σ := Bool) (fun s8 => (iS s_0 :: iI i :: a2 (.any :: .p (.int .u8 (b1.toNat : Int)) :: a4 (a2 (.p (.bool s8) :: a16 (a16 (a16 (a16 (a16 (a16 (a16 (a16 ([]))))))))))) : List AV)) (fun _ => ([] : List AObj)) (fun s8 => Xh N s_0 i b1 s8 = some r) (fun _ _ => lb) ?_ ?_
  ·apply iU h <;> intro h
   ·apply iU h <;> intro h
    ·refine cP h Qg p4 fun v11 h => ?_
     show Exists _
     exact ⟨(v11), h, (fun i => i), ⟨(rE rfl <| rE rfl <| rW <| rA <| rE rfl <| rV <| rW <| rE rfl <| rX <| rX <| rX <| rX <| rX <| rX <| rX <| rX <| rX <| rX <| rX <| rX <| rX <| rX <| rX <| rX <| rN), (hN), rfl, rfl, (roN)⟩⟩
    ·show Exists _
     exact ⟨(false), h, (fun i => i), ⟨(rE rfl <| rE rfl <| rW <| rA <| rE rfl <| rV <| rW <| rE rfl <| rX <| rX <| rX <| rX <| rX <| rX <| rX <| rX <| rX <| rX <| rX <| rX <| rX <| rX <| rX <| rX <| rN), (hN), rfl, rfl, (roN)⟩⟩
   ·show Exists _
    exact ⟨(false), h, (fun i => i), ⟨(rE rfl <| rE rfl <| rW <| rA <| rE rfl <| rV <| rW <| rE rfl <| rX <| rX <| rX <| rX <| rX <| rX <| rX <| rX <| rX <| rX <| rX <| rX <| rX <| rX <| rX <| rX <| rN), (hN), rfl, rfl, (roN)⟩⟩
  rintro s8 h
  dsimp only [Xh] at h
  apply iU h <;> intro h
  ·cases h; exact (.p _)
  ·refine J2 (σ := Bool) (fun s50 => (iS s_0 :: iI i :: a2 (.any :: .p (.int .u8 (b1.toNat : Int)) :: a16 (a2 (.any :: .p (.bool s50) :: a16 (a16 (a16 (a16 (a16 (a16 (a16 (a2 (.any :: []))))))))))) : List AV)) (fun _ => ([] : List AObj)) (fun s50 => Zt N s_0 i b1 s50 = some r) (fun _ _ => lb) ?_ ?_
   ·refine J2 (σ := Bool) (fun s57 => (iS s_0 :: iI i :: a2 (.any :: .p (.int .u8 (b1.toNat : Int)) :: a16 (a2 (.any :: .p (.bool s57) :: a16 (a16 (a16 (a16 (a16 (a16 (a16 (a2 (.any :: []))))))))))) : List AV)) (fun _ => ([] : List AObj)) (fun s57 => Xn N (Zt N s_0 i b1) s_0 i b1 s57 = some r) (fun _ _ => lb) ?_ ?_
    ·apply iU h <;> intro h
     ·refine cP h Qg p4 fun v59 h => ?_
      apply iU h <;> intro h
      ·refine cP h Qg p4 fun v62 h => ?_
       show Exists _
       exact ⟨(v62), h, (fun i => i), ⟨(rE rfl <| rE rfl <| rW <| rA <| rE rfl <| rX <| rX <| rW <| rA <| rE rfl <| rX <| rX <| rX <| rX <| rX <| rX <| rX <| rX <| rX <| rX <| rX <| rX <| rX <| rX <| rW <| rA <| rN), (hN), rfl, rfl, (roN)⟩⟩
      ·show Exists _
       exact ⟨(false), h, (fun i => i), ⟨(rE rfl <| rE rfl <| rW <| rA <| rE rfl <| rX <| rX <| rW <| rA <| rE rfl <| rX <| rX <| rX <| rX <| rX <| rX <| rX <| rX <| rX <| rX <| rX <| rX <| rX <| rX <| rW <| rA <| rN), (hN), rfl, rfl, (roN)⟩⟩
     ·show Exists _
      exact ⟨(false), h, (fun i => i), ⟨(rE rfl <| rE rfl <| rW <| rA <| rE rfl <| rX <| rX <| rW <| rA <| rE rfl <| rX <| rX <| rX <| rX <| rX <| rX <| rX <| rX <| rX <| rX <| rX <| rX <| rX <| rX <| rW <| rA <| rN), (hN), rfl, rfl, (roN)⟩⟩
    rintro s57 h
    dsimp only [Xn] at h
    apply iU h <;> intro h
    ·show Exists _
     exact ⟨(s57), h, (fun i => i), ⟨(rE rfl <| rE rfl <| rW <| rA <| rE rfl <| rX <| rX <| rW <| rA <| rE rfl <| rX <| rX <| rX <| rX <| rX <| rX <| rX <| rX <| rX <| rX <| rX <| rX <| rX <| rX <| rW <| rA <| rN), (hN), rfl, rfl, (roN)⟩⟩
    ·refine J2 (σ := Bool) (fun s71 => (iS s_0 :: iI i :: a2 (.any :: .p (.int .u8 (b1.toNat : Int)) :: a16 (a2 (.any :: .p (.bool s71) :: a16 (a16 (a16 (a16 (a16 (a16 (a16 (a2 (.any :: []))))))))))) : List AV)) (fun _ => ([] : List AObj)) (fun s71 => Xl N (Zt N s_0 i b1) s_0 i b1 s71 = some r) (fun _ _ => lb) ?_ ?_
     ·apply iU h <;> intro h
      ·refine cP h Qg p4 fun v73 h => ?_
       apply iU h <;> intro h
       ·refine cP h Qg p4 fun v76 h => ?_
        show Exists _
        exact ⟨(v76), h, (fun i => i), ⟨(rE rfl <| rE rfl <| rW <| rA <| rE rfl <| rX <| rX <| rW <| rA <| rE rfl <| rX <| rX <| rX <| rX <| rX <| rX <| rX <| rX <| rX <| rX <| rX <| rX <| rX <| rX <| rW <| rA <| rN), (hN), rfl, rfl, (roN)⟩⟩
       ·show Exists _
        exact ⟨(false), h, (fun i => i), ⟨(rE rfl <| rE rfl <| rW <| rA <| rE rfl <| rX <| rX <| rW <| rA <| rE rfl <| rX <| rX <| rX <| rX <| rX <| rX <| rX <| rX <| rX <| rX <| rX <| rX <| rX <| rX <| rW <| rA <| rN), (hN), rfl, rfl, (roN)⟩⟩
      ·show Exists _
       exact ⟨(false), h, (fun i => i), ⟨(rE rfl <| rE rfl <| rW <| rA <| rE rfl <| rX <| rX <| rW <| rA <| rE rfl <| rX <| rX <| rX <| rX <| rX <| rX <| rX <| rX <| rX <| rX <| rX <| rX <| rX <| rX <| rW <| rA <| rN), (hN), rfl, rfl, (roN)⟩⟩
     rintro s71 h
     dsimp only [Xl] at h
     apply iU h <;> intro h
     ·show Exists _
      exact ⟨(s71), h, (fun i => i), ⟨(rE rfl <| rE rfl <| rW <| rA <| rE rfl <| rX <| rX <| rW <| rA <| rE rfl <| rX <| rX <| rX <| rX <| rX <| rX <| rX <| rX <| rX <| rX <| rX <| rX <| rX <| rX <| rW <| rA <| rN), (hN), rfl, rfl, (roN)⟩⟩
     ·apply iU h <;> intro h
      ·apply iU h <;> intro h
       ·apply iU h <;> intro h
        ·refine cP h Qg p4 fun v82 h => ?_
         apply iU h <;> intro h
         ·refine cP h Qg p4 fun v85 h => ?_
          show Exists _
          exact ⟨(v85), h, (fun i => i), ⟨(rE rfl <| rE rfl <| rW <| rA <| rE rfl <| rX <| rX <| rW <| rA <| rE rfl <| rX <| rX <| rX <| rX <| rX <| rX <| rX <| rX <| rX <| rX <| rX <| rX <| rX <| rX <| rW <| rA <| rN), (hN), rfl, rfl, (roN)⟩⟩
         ·show Exists _
          exact ⟨(false), h, (fun i => i), ⟨(rE rfl <| rE rfl <| rW <| rA <| rE rfl <| rX <| rX <| rW <| rA <| rE rfl <| rX <| rX <| rX <| rX <| rX <| rX <| rX <| rX <| rX <| rX <| rX <| rX <| rX <| rX <| rW <| rA <| rN), (hN), rfl, rfl, (roN)⟩⟩
        ·show Exists _
         exact ⟨(false), h, (fun i => i), ⟨(rE rfl <| rE rfl <| rW <| rA <| rE rfl <| rX <| rX <| rW <| rA <| rE rfl <| rX <| rX <| rX <| rX <| rX <| rX <| rX <| rX <| rX <| rX <| rX <| rX <| rX <| rX <| rW <| rA <| rN), (hN), rfl, rfl, (roN)⟩⟩
       ·show Exists _
        exact ⟨(false), h, (fun i => i), ⟨(rE rfl <| rE rfl <| rW <| rA <| rE rfl <| rX <| rX <| rW <| rA <| rE rfl <| rX <| rX <| rX <| rX <| rX <| rX <| rX <| rX <| rX <| rX <| rX <| rX <| rX <| rX <| rW <| rA <| rN), (hN), rfl, rfl, (roN)⟩⟩
      ·show Exists _
       exact ⟨(false), h, (fun i => i), ⟨(rE rfl <| rE rfl <| rW <| rA <| rE rfl <| rX <| rX <| rW <| rA <| rE rfl <| rX <| rX <| rX <| rX <| rX <| rX <| rX <| rX <| rX <| rX <| rX <| rX <| rX <| rX <| rW <| rA <| rN), (hN), rfl, rfl, (roN)⟩⟩
   rintro s50 h
   dsimp only [Zt] at h
   apply iU h <;> intro h
   ·cases h; exact (.p _)
   ·refine J2 (σ := Bool) (fun s139 => (a16 (a16 (a16 (a16 (a8 (a4 (.p (.bool s139) :: a16 (a16 (a16 (a16 ([])))))))))) : List AV)) (fun _ => ([] : List AObj)) (fun s139 => Zd N s139 = some r) (fun _ _ => lb) ?_ ?_
    ·refine J2 (σ := Bool) (fun s149 => (iS s_0 :: iI i :: a2 (.any :: .p (.int .u8 (b1.toNat : Int)) :: a16 (a16 (a16 (a16 (a4 (a2 (.p (.bool s149) :: a16 (a16 (a16 (a16 ([]))))))))))) : List AV)) (fun _ => ([] : List AObj)) (fun s149 => Yf N (Zd N) s_0 i b1 s149 = some r) (fun _ _ => lb) ?_ ?_
     ·apply iU h <;> intro h
      ·refine cP h Qg p4 fun v151 h => ?_
       apply iU h <;> intro h
       ·refine cP h Qg p4 fun v154 h => ?_
        apply iU h <;> intro h
        ·refine cP h Qg p4 fun v157 h => ?_
         show Exists _
         exact ⟨(v157), h, (fun i => i), ⟨(rE rfl <| rE rfl <| rW <| rA <| rE rfl <| rX <| rX <| rX <| rX <| rX <| rX <| rX <| rX <| rV <| rW <| rE rfl <| rX <| rX <| rX <| rX <| rX <| rX <| rX <| rX <| rN), (hN), rfl, rfl, (roN)⟩⟩
        ·show Exists _
         exact ⟨(false), h, (fun i => i), ⟨(rE rfl <| rE rfl <| rW <| rA <| rE rfl <| rX <| rX <| rX <| rX <| rX <| rX <| rX <| rX <| rV <| rW <| rE rfl <| rX <| rX <| rX <| rX <| rX <| rX <| rX <| rX <| rN), (hN), rfl, rfl, (roN)⟩⟩
       ·show Exists _
        exact ⟨(false), h, (fun i => i), ⟨(rE rfl <| rE rfl <| rW <| rA <| rE rfl <| rX <| rX <| rX <| rX <| rX <| rX <| rX <| rX <| rV <| rW <| rE rfl <| rX <| rX <| rX <| rX <| rX <| rX <| rX <| rX <| rN), (hN), rfl, rfl, (roN)⟩⟩
      ·show Exists _
       exact ⟨(false), h, (fun i => i), ⟨(rE rfl <| rE rfl <| rW <| rA <| rE rfl <| rX <| rX <| rX <| rX <| rX <| rX <| rX <| rX <| rV <| rW <| rE rfl <| rX <| rX <| rX <| rX <| rX <| rX <| rX <| rX <| rN), (hN), rfl, rfl, (roN)⟩⟩
     rintro s149 h
     dsimp only [Yf] at h
     apply iU h <;> intro h
     ·show Exists _
      exact ⟨(s149), h, (fun i => i), ⟨(rX <| rX <| rX <| rX <| rX <| rX <| rX <| rX <| rX <| rV <| rE rfl <| rX <| rX <| rX <| rX <| rX <| rX <| rX <| rX <| rN), (hN), rfl, rfl, (roN)⟩⟩
     ·refine J2 (σ := Bool) (fun s170 => (iS s_0 :: iI i :: a2 (.any :: .p (.int .u8 (b1.toNat : Int)) :: a16 (a16 (a16 (a16 (a4 (a2 (.p (.bool s170) :: a16 (a16 (a16 (a16 ([]))))))))))) : List AV)) (fun _ => ([] : List AObj)) (fun s170 => Zx N (Zd N) s_0 i b1 s170 = some r) (fun _ _ => lb) ?_ ?_
      ·apply iU h <;> intro h
       ·apply iU h <;> intro h
        ·refine cP h Qg p4 fun v173 h => ?_
         apply iU h <;> intro h
         ·refine cP h Qg p4 fun v176 h => ?_
          apply iU h <;> intro h
          ·refine cP h Qg p4 fun v179 h => ?_
           show Exists _
           exact ⟨(v179), h, (fun i => i), ⟨(rE rfl <| rE rfl <| rW <| rA <| rE rfl <| rX <| rX <| rX <| rX <| rX <| rX <| rX <| rX <| rV <| rW <| rE rfl <| rX <| rX <| rX <| rX <| rX <| rX <| rX <| rX <| rN), (hN), rfl, rfl, (roN)⟩⟩
          ·show Exists _
           exact ⟨(false), h, (fun i => i), ⟨(rE rfl <| rE rfl <| rW <| rA <| rE rfl <| rX <| rX <| rX <| rX <| rX <| rX <| rX <| rX <| rV <| rW <| rE rfl <| rX <| rX <| rX <| rX <| rX <| rX <| rX <| rX <| rN), (hN), rfl, rfl, (roN)⟩⟩
         ·show Exists _
          exact ⟨(false), h, (fun i => i), ⟨(rE rfl <| rE rfl <| rW <| rA <| rE rfl <| rX <| rX <| rX <| rX <| rX <| rX <| rX <| rX <| rV <| rW <| rE rfl <| rX <| rX <| rX <| rX <| rX <| rX <| rX <| rX <| rN), (hN), rfl, rfl, (roN)⟩⟩
        ·show Exists _
         exact ⟨(false), h, (fun i => i), ⟨(rE rfl <| rE rfl <| rW <| rA <| rE rfl <| rX <| rX <| rX <| rX <| rX <| rX <| rX <| rX <| rV <| rW <| rE rfl <| rX <| rX <| rX <| rX <| rX <| rX <| rX <| rX <| rN), (hN), rfl, rfl, (roN)⟩⟩
       ·show Exists _
        exact ⟨(false), h, (fun i => i), ⟨(rE rfl <| rE rfl <| rW <| rA <| rE rfl <| rX <| rX <| rX <| rX <| rX <| rX <| rX <| rX <| rV <| rW <| rE rfl <| rX <| rX <| rX <| rX <| rX <| rX <| rX <| rX <| rN), (hN), rfl, rfl, (roN)⟩⟩
      rintro s170 h
      dsimp only [Zx] at h
      apply iU h <;> intro h
      ·show Exists _
       exact ⟨(s170), h, (fun i => i), ⟨(rX <| rX <| rX <| rX <| rX <| rX <| rX <| rX <| rX <| rV <| rE rfl <| rX <| rX <| rX <| rX <| rX <| rX <| rX <| rX <| rN), (hN), rfl, rfl, (roN)⟩⟩
      ·apply iU h <;> intro h
       ·refine cP h Qg p4 fun v183 h => ?_
        apply iU h <;> intro h
        ·refine cP h Qg p4 fun v186 h => ?_
         apply iU h <;> intro h
         ·refine cP h Qg p4 fun v189 h => ?_
          show Exists _
          exact ⟨(v189), h, (fun i => i), ⟨(rX <| rX <| rX <| rX <| rX <| rX <| rX <| rX <| rX <| rV <| rE rfl <| rX <| rX <| rX <| rX <| rX <| rX <| rX <| rX <| rN), (hN), rfl, rfl, (roN)⟩⟩
         ·show Exists _
          exact ⟨(false), h, (fun i => i), ⟨(rX <| rX <| rX <| rX <| rX <| rX <| rX <| rX <| rX <| rV <| rE rfl <| rX <| rX <| rX <| rX <| rX <| rX <| rX <| rX <| rN), (hN), rfl, rfl, (roN)⟩⟩
        ·show Exists _
         exact ⟨(false), h, (fun i => i), ⟨(rX <| rX <| rX <| rX <| rX <| rX <| rX <| rX <| rX <| rV <| rE rfl <| rX <| rX <| rX <| rX <| rX <| rX <| rX <| rX <| rN), (hN), rfl, rfl, (roN)⟩⟩
       ·show Exists _
        exact ⟨(false), h, (fun i => i), ⟨(rX <| rX <| rX <| rX <| rX <| rX <| rX <| rX <| rX <| rV <| rE rfl <| rX <| rX <| rX <| rX <| rX <| rX <| rX <| rX <| rN), (hN), rfl, rfl, (roN)⟩⟩
    rintro s139 h
    dsimp only [Zd] at h
    apply iU h <;> intro h
    ·cases h; exact (.p _)
    ·cases h; exact (.p _)
def Xm (N : Nat) (s_0 : List UInt8) : Nat → Int → Option (Bool)
 | 0, _ => none
 | n + 1, i10 =>
  cond (Q5 .lss i10 (s_0.length : Int))
  ((U8 N s_0 i10).bind fun v12 =>
  cond (Q5 .eql v12 0)
  (some false)
  (Xm N s_0 n (IntKind.wrap .i64 (i10 + v12))))
  (some true)
def Zp (N : Nat) (s_0 : List UInt8) : Option (Bool) :=
 Xm N s_0 N 0
theorem Xj {N} {s_0} {r} (h : Zp N s_0 = some r) : Qz Tryz.prog G1 55 [.str s_0] (.bool r) := by
 refine Q4 k55 ?_
 unfold Zp at h
 refine lpC (τ := Int) (fun i10 => (iS s_0 :: .any :: .any :: iI i10 :: a8 (a4 (.any :: [])) : List AV)) (fun _ => ([] : List AObj)) (fun n0 i10 => Xm N s_0 n0 i10) (0) h (fun i => i) ⟨(rE rfl <| rW <| rE rfl <| rX <| rV <| rA <| rN), (hN), rfl, rfl, (roN)⟩ fun n0 i10 h => ?_
 simp only [Xm] at h
 apply iU h <;> intro h
 ·refine cP h Q52 p2 fun v12 h => ?_
  apply iU h <;> intro h
  ·cases h; exact (.p _)
  ·show Exists _
   exact ⟨(n0, (IntKind.wrap .i64 (i10 + v12))), h, Nat.lt_succ_self _, (fun i => i), ⟨(rE rfl <| rW <| rE rfl <| rX <| rV <| rA <| rN), (hN), rfl, rfl, (roN)⟩⟩
 ·cases h; exact (.p _)
def Qw (N : Nat) (v : Q0) : Option (Int) :=
 cond (Q5 .eql v.Kind 15)
 (cond (Q5 .lss v.Kind 1)
 (some 8)
 (cond (Q5 .gtr v.Kind 21)
 (some 8)
 ((W5 N v).bind fun v4 =>
 cond (!v4)
 (some 2)
 (cond (Q5 .gtr ((Q0.rows v.Items).length : Int) 0)
 (some 2)
 ((Wj N v.Kind).bind fun v8 =>
 cond (!v8)
 (cond (Q36 .neq v.Text [])
 (some 2)
 (cond (Q5 .neq (v.Text.length : Int) 16)
 (some 2)
 (cond (Q5 .gtr (v.Text.length : Int) 1048576)
 (some 4)
 (cond (Q5 .eql v.Kind 20)
 ((Zp N v.Text).bind fun v15 =>
 cond (!v15)
 (some 6)
 (cond (Q5 .eql v.Kind 21)
 ((Qn N v.Text).bind fun v19 =>
 cond (!v19)
 (some 6)
 (some 0))
 (some 0)))
 (cond (Q5 .eql v.Kind 21)
 ((Qn N v.Text).bind fun v23 =>
 cond (!v23)
 (some 6)
 (some 0))
 (some 0))))))
 (cond (Q5 .neq (v.Text.length : Int) 16)
 (some 2)
 (cond (Q5 .gtr (v.Text.length : Int) 1048576)
 (some 4)
 (cond (Q5 .eql v.Kind 20)
 ((Zp N v.Text).bind fun v29 =>
 cond (!v29)
 (some 6)
 (cond (Q5 .eql v.Kind 21)
 ((Qn N v.Text).bind fun v33 =>
 cond (!v33)
 (some 6)
 (some 0))
 (some 0)))
 (cond (Q5 .eql v.Kind 21)
 ((Qn N v.Text).bind fun v37 =>
 cond (!v37)
 (some 6)
 (some 0))
 (some 0))))))))))
 (cond (Q5 .lss v.Kind 1)
 (some 8)
 (cond (Q5 .gtr v.Kind 21)
 (some 8)
 ((W5 N v).bind fun v42 =>
 cond (!v42)
 (some 2)
 (cond (Q5 .gtr ((Q0.rows v.Items).length : Int) 0)
 (some 2)
 ((Wj N v.Kind).bind fun v46 =>
 cond (!v46)
 (cond (Q36 .neq v.Text [])
 (some 2)
 (cond (Q5 .eql v.Kind 18)
 (cond (Q5 .neq (v.Text.length : Int) 16)
 (some 2)
 (cond (Q5 .gtr (v.Text.length : Int) 1048576)
 (some 4)
 (cond (Q5 .eql v.Kind 20)
 ((Zp N v.Text).bind fun v54 =>
 cond (!v54)
 (some 6)
 (cond (Q5 .eql v.Kind 21)
 ((Qn N v.Text).bind fun v58 =>
 cond (!v58)
 (some 6)
 (some 0))
 (some 0)))
 (cond (Q5 .eql v.Kind 21)
 ((Qn N v.Text).bind fun v62 =>
 cond (!v62)
 (some 6)
 (some 0))
 (some 0)))))
 (cond (Q5 .gtr (v.Text.length : Int) 1048576)
 (some 4)
 (cond (Q5 .eql v.Kind 20)
 ((Zp N v.Text).bind fun v67 =>
 cond (!v67)
 (some 6)
 (cond (Q5 .eql v.Kind 21)
 ((Qn N v.Text).bind fun v71 =>
 cond (!v71)
 (some 6)
 (some 0))
 (some 0)))
 (cond (Q5 .eql v.Kind 21)
 ((Qn N v.Text).bind fun v75 =>
 cond (!v75)
 (some 6)
 (some 0))
 (some 0))))))
 (cond (Q5 .eql v.Kind 18)
 (cond (Q5 .neq (v.Text.length : Int) 16)
 (some 2)
 (cond (Q5 .gtr (v.Text.length : Int) 1048576)
 (some 4)
 (cond (Q5 .eql v.Kind 20)
 ((Zp N v.Text).bind fun v82 =>
 cond (!v82)
 (some 6)
 (cond (Q5 .eql v.Kind 21)
 ((Qn N v.Text).bind fun v86 =>
 cond (!v86)
 (some 6)
 (some 0))
 (some 0)))
 (cond (Q5 .eql v.Kind 21)
 ((Qn N v.Text).bind fun v90 =>
 cond (!v90)
 (some 6)
 (some 0))
 (some 0)))))
 (cond (Q5 .gtr (v.Text.length : Int) 1048576)
 (some 4)
 (cond (Q5 .eql v.Kind 20)
 ((Zp N v.Text).bind fun v95 =>
 cond (!v95)
 (some 6)
 (cond (Q5 .eql v.Kind 21)
 ((Qn N v.Text).bind fun v99 =>
 cond (!v99)
 (some 6)
 (some 0))
 (some 0)))
 (cond (Q5 .eql v.Kind 21)
 ((Qn N v.Text).bind fun v103 =>
 cond (!v103)
 (some 6)
 (some 0))
 (some 0))))))))))
theorem Zo {N} {v} {r} (h : Qw N v = some r) : Qz Tryz.prog G1 13 [.agg (Q0.cells v)] (.int .i64 r) := by
 refine Q4 k13 ?_
 unfold Qw at h
 apply iU h <;> intro h
 ·apply iU h <;> intro h
  ·cases h; exact (.p _)
  ·apply iU h <;> intro h
   ·cases h; exact (.p _)
   ·refine cP h Gp (.cons q4 .nil) fun v4 h => ?_
    apply iU h <;> intro h
    ·cases h; exact (.p _)
    ·apply iU h <;> intro h
     ·cases h; exact (.p _)
     ·refine cP h Q06 p1 fun v8 h => ?_
      apply iU h <;> intro h
      ·apply iU h <;> intro h
       ·cases h; exact (.p _)
       ·apply iU h <;> intro h
        ·cases h; exact (.p _)
        ·apply iU h <;> intro h
         ·cases h; exact (.p _)
         ·apply iU h <;> intro h
          ·refine cP h Xj p1 fun v15 h => ?_
           apply iU h <;> intro h
           ·cases h; exact (.p _)
           ·apply iU h <;> intro h
            ·refine cP h Qt p1 fun v19 h => ?_
             apply iU h <;> intro h
             ·cases h; exact (.p _)
             ·cases h; exact (.p _)
            ·cases h; exact (.p _)
          ·apply iU h <;> intro h
           ·refine cP h Qt p1 fun v23 h => ?_
            apply iU h <;> intro h
            ·cases h; exact (.p _)
            ·cases h; exact (.p _)
           ·cases h; exact (.p _)
      ·apply iU h <;> intro h
       ·cases h; exact (.p _)
       ·apply iU h <;> intro h
        ·cases h; exact (.p _)
        ·apply iU h <;> intro h
         ·refine cP h Xj p1 fun v29 h => ?_
          apply iU h <;> intro h
          ·cases h; exact (.p _)
          ·apply iU h <;> intro h
           ·refine cP h Qt p1 fun v33 h => ?_
            apply iU h <;> intro h
            ·cases h; exact (.p _)
            ·cases h; exact (.p _)
           ·cases h; exact (.p _)
         ·apply iU h <;> intro h
          ·refine cP h Qt p1 fun v37 h => ?_
           apply iU h <;> intro h
           ·cases h; exact (.p _)
           ·cases h; exact (.p _)
          ·cases h; exact (.p _)
 ·apply iU h <;> intro h
  ·cases h; exact (.p _)
  ·apply iU h <;> intro h
   ·cases h; exact (.p _)
   ·refine cP h Gp (.cons q4 .nil) fun v42 h => ?_
    apply iU h <;> intro h
    ·cases h; exact (.p _)
    ·apply iU h <;> intro h
     ·cases h; exact (.p _)
     ·refine cP h Q06 p1 fun v46 h => ?_
      apply iU h <;> intro h
      ·apply iU h <;> intro h
       ·cases h; exact (.p _)
       ·apply iU h <;> intro h
        ·apply iU h <;> intro h
         ·cases h; exact (.p _)
         ·apply iU h <;> intro h
          ·cases h; exact (.p _)
          ·apply iU h <;> intro h
           ·refine cP h Xj p1 fun v54 h => ?_
            apply iU h <;> intro h
            ·cases h; exact (.p _)
            ·apply iU h <;> intro h
             ·refine cP h Qt p1 fun v58 h => ?_
              apply iU h <;> intro h
              ·cases h; exact (.p _)
              ·cases h; exact (.p _)
             ·cases h; exact (.p _)
           ·apply iU h <;> intro h
            ·refine cP h Qt p1 fun v62 h => ?_
             apply iU h <;> intro h
             ·cases h; exact (.p _)
             ·cases h; exact (.p _)
            ·cases h; exact (.p _)
        ·apply iU h <;> intro h
         ·cases h; exact (.p _)
         ·apply iU h <;> intro h
          ·refine cP h Xj p1 fun v67 h => ?_
           apply iU h <;> intro h
           ·cases h; exact (.p _)
           ·apply iU h <;> intro h
            ·refine cP h Qt p1 fun v71 h => ?_
             apply iU h <;> intro h
             ·cases h; exact (.p _)
             ·cases h; exact (.p _)
            ·cases h; exact (.p _)
          ·apply iU h <;> intro h
           ·refine cP h Qt p1 fun v75 h => ?_
            apply iU h <;> intro h
            ·cases h; exact (.p _)
            ·cases h; exact (.p _)
           ·cases h; exact (.p _)
      ·apply iU h <;> intro h
       ·apply iU h <;> intro h
        ·cases h; exact (.p _)
        ·apply iU h <;> intro h
         ·cases h; exact (.p _)
         ·apply iU h <;> intro h
          ·refine cP h Xj p1 fun v82 h => ?_
           apply iU h <;> intro h
           ·cases h; exact (.p _)
           ·apply iU h <;> intro h
            ·refine cP h Qt p1 fun v86 h => ?_
             apply iU h <;> intro h
             ·cases h; exact (.p _)
             ·cases h; exact (.p _)
            ·cases h; exact (.p _)
          ·apply iU h <;> intro h
           ·refine cP h Qt p1 fun v90 h => ?_
            apply iU h <;> intro h
            ·cases h; exact (.p _)
            ·cases h; exact (.p _)
           ·cases h; exact (.p _)
       ·apply iU h <;> intro h
        ·cases h; exact (.p _)
        ·apply iU h <;> intro h
         ·refine cP h Xj p1 fun v95 h => ?_
          apply iU h <;> intro h
          ·cases h; exact (.p _)
          ·apply iU h <;> intro h
           ·refine cP h Qt p1 fun v99 h => ?_
            apply iU h <;> intro h
            ·cases h; exact (.p _)
            ·cases h; exact (.p _)
           ·cases h; exact (.p _)
         ·apply iU h <;> intro h
          ·refine cP h Qt p1 fun v103 h => ?_
           apply iU h <;> intro h
           ·cases h; exact (.p _)
           ·cases h; exact (.p _)
          ·cases h; exact (.p _)
def Xf (R_polyglotref17_Same : Q0 → Q0 → Option (Bool)) (N : Nat) (a : Q0) (b : Q0) : Nat → Int → Option (Bool)
 | 0, _ => none
 | n + 1, i22 =>
  cond (Q5 .lss i22 ((Q0.rows a.Items).length : Int))
  ((idx a.Items i22).bind fun y24 =>
  (idx b.Items i22).bind fun y26 =>
  (R_polyglotref17_Same y24 y26).bind fun v28 =>
  cond (!v28)
  (some false)
  (Xf R_polyglotref17_Same N a b n (IntKind.wrap .i64 (i22 + 1))))
  (some true)
def Jb (R_polyglotref17_Same : Q0 → Q0 → Option (Bool)) (N : Nat) (a : Q0) (b : Q0) : Option (Bool) :=
 cond (Q5 .neq a.Kind b.Kind)
 (some false)
 (cond (Q5 .neq a.N' b.N')
 (some false)
 (cond (Q36 .neq a.Text b.Text)
 (some false)
 (cond (Q5 .neq ((Q0.rows a.Items).length : Int) ((Q0.rows b.Items).length : Int))
 (some false)
 (Xf R_polyglotref17_Same N a b N 0))))
theorem Q4q {R_polyglotref17_Same : Q0 → Q0 → Option (Bool)} (hR_polyglotref17_Same : ∀ {a} {b} {r}, R_polyglotref17_Same a b = some r → Qz Tryz.prog G1 57 [.agg (Q0.cells a), .agg (Q0.cells b)] (.bool r)) {N} {a} {b} {r} (h : Jb R_polyglotref17_Same N a b = some r) : Qz Tryz.prog G1 57 [.agg (Q0.cells a), .agg (Q0.cells b)] (.bool r) := by
 refine Q4 k57 ?_
 unfold Jb at h
 apply iU h <;> intro h
 ·cases h; exact (.p _)
 ·apply iU h <;> intro h
  ·cases h; exact (.p _)
  ·apply iU h <;> intro h
   ·cases h; exact (.p _)
   ·apply iU h <;> intro h
    ·cases h; exact (.p _)
    ·refine lpC (τ := Int) (fun i22 => (.any :: .any :: .ptr 0 0 :: .ptr 1 0 :: .any :: iI i22 :: a16 (a16 (a8 (a4 (a2 (.any :: []))))) : List AV)) (fun _ => (.cells (iI a.Kind :: iW a.N' :: iS a.Text :: .p (.slice 4 (Q0.rows a.Items)) :: []) :: .cells (iI b.Kind :: iW b.N' :: iS b.Text :: .p (.slice 4 (Q0.rows b.Items)) :: []) :: [] : List AObj)) (fun n0 i22 => Xf R_polyglotref17_Same N a b n0 i22) (0) h (fun i => i) ⟨(rW <| rE rfl <| rE rfl <| rA <| rE rfl <| rX <| rX <| rX <| rX <| rX <| rV <| rW <| rA <| rN), (hE rfl <| hE rfl <| hN), rfl, rfl, (roE rfl <| roE rfl <| roN)⟩ fun n0 i22 h => ?_
     simp only [Xf] at h
     apply iU h <;> intro h
     ·refine Qe ?_
      refine Q0.xR h fun y24 h => ?_
      refine Q0.xR h fun y26 h => ?_
      refine cD h hR_polyglotref17_Same (.cons q4 (.cons q4 .nil)) fun v28 h => ?_
      apply iU h <;> intro h
      ·cases h; exact (.p _)
      ·show Exists _
       exact ⟨(n0, (IntKind.wrap .i64 (i22 + 1))), h, Nat.lt_succ_self _, (fun i => i), ⟨(rW <| rE rfl <| rE rfl <| rA <| rE rfl <| rX <| rX <| rX <| rX <| rX <| rV <| rW <| rA <| rN), (hE rfl <| hE rfl <| hN), rfl, rfl, (roE rfl <| roE rfl <| roN)⟩⟩
     ·cases h; exact (.p _)
def Xy : Nat → Q0 → Q0 → Option (Bool)
 | 0 => fun _ _ => none
 | N + 1 => Jb (Xy N) N
theorem Q4h {N} {a} {b} {r} (h : Xy N a b = some r) : Qz Tryz.prog G1 57 [.agg (Q0.cells a), .agg (Q0.cells b)] (.bool r) := by
 induction N generalizing a b r with
 | zero => simp [Xy] at h
 | succ N ih => exact Q4q (fun h => ih h) h
def Zu (R_polyglotref17_Copy : Q0 → Option (Q0)) (N : Nat) (v : Q0) : Nat → Int → (List Q0) → Option (Q0)
 | 0, _, _ => none
 | n + 1, i14, l15 =>
  cond (Q5 .lss i14 ((Q0.rows v.Items).length : Int))
  ((idx v.Items i14).bind fun y17 =>
  (R_polyglotref17_Copy y17).bind fun v19 =>
  cond (Nat.ble ((l15.length + 1 + 4096) * 56) 17592186044416) (Zu R_polyglotref17_Copy N v n (IntKind.wrap .i64 (i14 + 1)) (l15 ++ [v19])) none)
  (some (⟨v.Kind, v.N', v.Text, l15⟩ : Q0))
def Ua (R_polyglotref17_Copy : Q0 → Option (Q0)) (N : Nat) (v : Q0) : Option (Q0) :=
 Zu R_polyglotref17_Copy N v N 0 []
theorem Q43 {R_polyglotref17_Copy : Q0 → Option (Q0)} (hR_polyglotref17_Copy : ∀ {v} {r}, R_polyglotref17_Copy v = some r → Qz Tryz.prog G1 76 [.agg (Q0.cells v)] (.agg (Q0.cells r))) {N} {v} {r} (h : Ua R_polyglotref17_Copy N v = some r) : Qz Tryz.prog G1 76 [.agg (Q0.cells v)] (.agg (Q0.cells r)) := by
 refine Q4 k76 ?_
 unfold Ua at h
 refine lpC (τ := Int × (List Q0)) (fun ⟨i14, _⟩ => (.any :: .ptr 0 0 :: .ptr 1 0 :: .ptr 2 0 :: iI i14 :: a16 (a8 (a2 ([]))) : List AV)) (fun ⟨_, l15⟩ => (.cells (iI v.Kind :: iW v.N' :: iS v.Text :: .p (.slice 4 (Q0.rows v.Items)) :: []) :: .cells (iI 0 :: iW 0 :: iS [] :: .p .nilSlice :: []) :: .cells (iI v.Kind :: iW v.N' :: iS v.Text :: .slice 4 3 0 l15.length :: []) :: .cells (Wt Q0.cells l15) :: [] : List AObj)) (fun n0 ⟨i14, l15⟩ => Zu R_polyglotref17_Copy N v n0 i14 l15) (0, []) h (fun i => i) ⟨(rA <| rE rfl <| rE rfl <| rE rfl <| rE rfl <| rX <| rX <| rX <| rW <| rN), (hE rfl <| hE rfl <| hC rfl (rE rfl <| rE rfl <| rE rfl <| rS <| rN) <| hV lb <| hN), rfl, rfl, (roE rfl <| roE rfl <| roE rfl <| roE (Qd _ _ _) <| roN)⟩ fun n0 ⟨i14, l15⟩ h => ?_
 simp only [Zu] at h
 apply iU h <;> intro h
 ·refine Qe ?_
  refine Q0.xR h fun y17 h => ?_
  refine cD h hR_polyglotref17_Copy (.cons q4 .nil) fun v19 h => ?_
  obtain ⟨hk21, h⟩ := Q7i h
  refine Q3q (Vr (c := Q0.cells) (e := 4) (fun _ => rfl) (by simp) hk21) ?_
  refine Jm (c := Q0.cells) [v19] rfl ?_
  show Exists _
  exact ⟨(n0, (IntKind.wrap .i64 (i14 + 1)), (l15 ++ [v19])), h, Nat.lt_succ_self _, (rho [0, 1, 2, 5]), ⟨(rA <| rE rfl <| rE rfl <| rE rfl <| rE rfl <| rX <| rX <| rX <| rW <| rN), (hE rfl <| hE rfl <| hC rfl (rE rfl <| rE rfl <| rE rfl <| rL (by simp) rfl <| rN) <| hO rfl <| hN), rfl, rfl, (roE rfl <| roE rfl <| roE rfl <| roE (Qd _ _ _) <| roN)⟩⟩
 ·obtain rfl := Qc h; exact (Frz.agg' (.cons (.p _) (.cons (.p _) (.cons (.p _) (.cons (Q0.frz_own (l := l15) rfl trivial (by simp)) .nil)))))
def Yq : Nat → Q0 → Option (Q0)
 | 0 => fun _ => none
 | N + 1 => Ua (Yq N) N
theorem Q4j {N} {v} {r} (h : Yq N v = some r) : Qz Tryz.prog G1 76 [.agg (Q0.cells v)] (.agg (Q0.cells r)) := by
 induction N generalizing v r with
 | zero => simp [Yq] at h
 | succ N ih => exact Q43 (fun h => ih h) h
theorem Q3h {R_polyglotref17_Copy : Q0 → Option (Q0)} (hR_polyglotref17_Copy : ∀ {v} {r}, R_polyglotref17_Copy v = some r → Qz Tryz.prog G1 76 [.agg (Q0.cells v)] (.agg (Q0.cells r))) {N} {v} {r} (h : Ua R_polyglotref17_Copy N v = some r) : GC Tryz.prog G1 76 (.p (.agg (Q0.cells v)) :: []) [] (.agg [.p (.int .i64 r.Kind), .p (.int .u64 r.N'), .p (.str r.Text), .slice 4 0 0 r.Items.length]) (.cells (Wt Q0.cells r.Items) :: []) := by
 refine Q6b k76 (Nat.le_of_ble_eq_true rfl) ?_
 unfold Ua at h
 refine lpC (τ := Int × (List Q0)) (fun ⟨i14, _⟩ => (.any :: .ptr 0 0 :: .ptr 1 0 :: .ptr 2 0 :: iI i14 :: a16 (a8 (a2 ([]))) : List AV)) (fun ⟨_, l15⟩ => (.cells (iI v.Kind :: iW v.N' :: iS v.Text :: .p (.slice 4 (Q0.rows v.Items)) :: []) :: .cells (iI 0 :: iW 0 :: iS [] :: .p .nilSlice :: []) :: .cells (iI v.Kind :: iW v.N' :: iS v.Text :: .slice 4 3 0 l15.length :: []) :: .cells (Wt Q0.cells l15) :: [] : List AObj)) (fun n0 ⟨i14, l15⟩ => Zu R_polyglotref17_Copy N v n0 i14 l15) (0, []) h (fun i => i) ⟨(rA <| rE rfl <| rE rfl <| rE rfl <| rE rfl <| rX <| rX <| rX <| rW <| rN), (hE rfl <| hE rfl <| hC rfl (rE rfl <| rE rfl <| rE rfl <| rS <| rN) <| hV lb <| hN), rfl, rfl, (roE rfl <| roE rfl <| roE rfl <| roE (Qd _ _ _) <| roN)⟩ fun n0 ⟨i14, l15⟩ h => ?_
 simp only [Zu] at h
 apply iU h <;> intro h
 ·refine Qe ?_
  refine Q0.xR h fun y17 h => ?_
  refine cD h hR_polyglotref17_Copy (.cons q4 .nil) fun v19 h => ?_
  obtain ⟨hk21, h⟩ := Q7i h
  refine Q3q (Vr (c := Q0.cells) (e := 4) (fun _ => rfl) (by simp) hk21) ?_
  refine Jm (c := Q0.cells) [v19] rfl ?_
  show Exists _
  exact ⟨(n0, (IntKind.wrap .i64 (i14 + 1)), (l15 ++ [v19])), h, Nat.lt_succ_self _, (rho [0, 1, 2, 5]), ⟨(rA <| rE rfl <| rE rfl <| rE rfl <| rE rfl <| rX <| rX <| rX <| rW <| rN), (hE rfl <| hE rfl <| hC rfl (rE rfl <| rE rfl <| rE rfl <| rL (by simp) rfl <| rN) <| hO rfl <| hN), rfl, rfl, (roE rfl <| roE rfl <| roE rfl <| roE (Qd _ _ _) <| roN)⟩⟩
 ·obtain rfl := Qc h
  show Exists _
  exact ⟨(rho [3]), ⟨(rG (rE rfl <| rE rfl <| rE rfl <| rE rfl <| rN) <| rN), (hO rfl <| hN), rfl, rfl, (roE (Qd _ _ _) <| roN)⟩⟩
theorem Q3d {N} {v} {r} (h : Yq N v = some r) : GC Tryz.prog G1 76 (.p (.agg (Q0.cells v)) :: []) [] (.agg [.p (.int .i64 r.Kind), .p (.int .u64 r.N'), .p (.str r.Text), .slice 4 0 0 r.Items.length]) (.cells (Wt Q0.cells r.Items) :: []) := by
 cases N with
 | zero => simp [Yq] at h
 | succ N => exact Q3h (fun h => Q4j h) h
def Xi (R_polyglotref18_Norm : Q0 → Option (Q0)) (N : Nat) (v : Q0) (v1 : Q0) (c22 : Int) : Nat → Int → (List Q0) → Option (Q0)
 | 0, _, _ => none
 | n + 1, i45, l46 =>
  cond (Q5 .lss i45 ((Q0.rows v.Items).length : Int))
  ((idx v.Items i45).bind fun y48 =>
  (R_polyglotref18_Norm y48).bind fun v50 =>
  (idx (l46 : List Q0) i45).bind fun y52 =>
  Xi R_polyglotref18_Norm N v v1 c22 n (IntKind.wrap .i64 (i45 + 1)) ((l46 : List Q0).set (Int.toNat i45) v50))
  (some (⟨v1.Kind, c22, v1.Text, l46⟩ : Q0))
def Zw (R_polyglotref18_Norm : Q0 → Option (Q0)) (N : Nat) (v : Q0) (v1 : Q0) (c22 : Int) : Option (Q0) :=
 Xi R_polyglotref18_Norm N v v1 c22 N 0 v1.Items
def Xk (_N : Nat) (k2 : Int → Option (Q0)) (c9 : Int) (s25 : Bool) : Option (Q0) :=
 cond s25
 (k2 9221120237041090560)
 (k2 c9)
def Yh (R_polyglotref18_Norm : Q0 → Option (Q0)) (N : Nat) (v : Q0) (v1 : Q0) (c9 : Int) : Option (Q0) :=
 cond (Q5 .eql v.Kind 12)
 (cond (Q5 .eql (Q1d .u64 v.N' 9218868437227405312) 9218868437227405312)
 (Xk N (Zw R_polyglotref18_Norm N v v1) c9 (Q5 .neq (Q1d .u64 v.N' 4503599627370495) 0))
 (Xk N (Zw R_polyglotref18_Norm N v v1) c9 false))
 (Xk N (Zw R_polyglotref18_Norm N v v1) c9 false)
def Xg (_N : Nat) (k0 : Int → Option (Q0)) (v1 : Q0) (s12 : Bool) : Option (Q0) :=
 cond s12
 (k0 2143289344)
 (k0 v1.N')
def Uc (R_polyglotref18_Norm : Q0 → Option (Q0)) (N : Nat) (v : Q0) : Option (Q0) :=
 (Yq N v).bind fun v1 =>
 cond (Q5 .eql v.Kind 11)
 (cond (Q5 .eql (Q1d .u64 v.N' 2139095040) 2139095040)
 (Xg N (Yh R_polyglotref18_Norm N v v1) v1 (Q5 .neq (Q1d .u64 v.N' 8388607) 0))
 (Xg N (Yh R_polyglotref18_Norm N v v1) v1 false))
 (Xg N (Yh R_polyglotref18_Norm N v v1) v1 false)
theorem Q4m {R_polyglotref18_Norm : Q0 → Option (Q0)} (hR_polyglotref18_Norm : ∀ {v} {r}, R_polyglotref18_Norm v = some r → Qz Tryz.prog G1 34 [.agg (Q0.cells v)] (.agg (Q0.cells r))) {N} {v} {r} (h : Uc R_polyglotref18_Norm N v = some r) : Qz Tryz.prog G1 34 [.agg (Q0.cells v)] (.agg (Q0.cells r)) := by
 refine Q4 k34 ?_
 unfold Uc at h
 refine cG h Q3d fun v1 h => ?_
 refine ⟨fun i => i, (.cells (iI v.Kind :: iW v.N' :: iS v.Text :: .p (.slice 4 (Q0.rows v.Items)) :: []) :: .cells (iI 0 :: iW 0 :: iS [] :: .p .nilSlice :: []) :: .cells (Wt Q0.cells v1.Items) :: []), .agg [iI v1.Kind, iW v1.N', iS v1.Text, .slice 4 2 0 v1.Items.length], ⟨(rF q4 <| rN), hN, rfl, rfl, roN, rfl, (fK rfl rfl <| fK rfl rfl <| fO 0 rfl rfl rfl <| fN), rfl⟩, ?_⟩
 refine J2 (σ := Int) (fun _ => (.any :: .ptr 0 0 :: .ptr 1 0 :: .ptr 3 0 :: a16 (a16 (a16 (a4 (.any :: [])))) : List AV)) (fun c9 => (.cells (iI v.Kind :: iW v.N' :: iS v.Text :: .p (.slice 4 (Q0.rows v.Items)) :: []) :: .cells (iI 0 :: iW 0 :: iS [] :: .p .nilSlice :: []) :: .cells (Wt Q0.cells v1.Items) :: .cells (iI v1.Kind :: iW c9 :: iS v1.Text :: .slice 4 2 0 v1.Items.length :: []) :: [] : List AObj)) (fun c9 => Yh R_polyglotref18_Norm N v v1 c9 = some r) (fun _ _ => lb) ?_ ?_
 ·refine J2 (σ := Bool) (fun s12 => (.any :: .ptr 0 0 :: .ptr 1 0 :: .ptr 3 0 :: a16 (.any :: .p (.bool s12) :: a16 (a16 (a2 (.any :: [])))) : List AV)) (fun _ => (.cells (iI v.Kind :: iW v.N' :: iS v.Text :: .p (.slice 4 (Q0.rows v.Items)) :: []) :: .cells (iI 0 :: iW 0 :: iS [] :: .p .nilSlice :: []) :: .cells (Wt Q0.cells v1.Items) :: .cells (iI v1.Kind :: iW v1.N' :: iS v1.Text :: .slice 4 2 0 v1.Items.length :: []) :: [] : List AObj)) (fun s12 => Xg N (Yh R_polyglotref18_Norm N v v1) v1 s12 = some r) (fun _ _ => lb) ?_ ?_
  ·apply iU h <;> intro h
   ·apply iU h <;> intro h
    ·show Exists _
     exact ⟨((Q5 .neq (Q1d .u64 v.N' 8388607) 0)), h, (fun i => i), ⟨(rA <| rE rfl <| rE rfl <| rE rfl <| rX <| rX <| rA <| rE rfl <| rX <| rX <| rX <| rX <| rW <| rA <| rN), (hE rfl <| hE rfl <| hO rfl <| hE rfl <| hN), rfl, rfl, (roE rfl <| roE rfl <| roE (Qd _ _ _) <| roE rfl <| roN)⟩⟩
    ·show Exists _
     exact ⟨(false), h, (fun i => i), ⟨(rA <| rE rfl <| rE rfl <| rE rfl <| rX <| rX <| rA <| rE rfl <| rX <| rX <| rX <| rX <| rW <| rA <| rN), (hE rfl <| hE rfl <| hO rfl <| hE rfl <| hN), rfl, rfl, (roE rfl <| roE rfl <| roE (Qd _ _ _) <| roE rfl <| roN)⟩⟩
   ·show Exists _
    exact ⟨(false), h, (fun i => i), ⟨(rA <| rE rfl <| rE rfl <| rE rfl <| rX <| rX <| rA <| rE rfl <| rX <| rX <| rX <| rX <| rW <| rA <| rN), (hE rfl <| hE rfl <| hO rfl <| hE rfl <| hN), rfl, rfl, (roE rfl <| roE rfl <| roE (Qd _ _ _) <| roE rfl <| roN)⟩⟩
  rintro s12 h
  dsimp only [Xg] at h
  apply iU h <;> intro h
  ·show Exists _
   exact ⟨(2143289344), h, (fun i => i), ⟨(rA <| rE rfl <| rE rfl <| rE rfl <| rX <| rX <| rX <| rX <| rX <| rX <| rV <| rA <| rN), (hE rfl <| hE rfl <| hO rfl <| hE rfl <| hN), rfl, rfl, (roE rfl <| roE rfl <| roE (Qd _ _ _) <| roE rfl <| roN)⟩⟩
  ·show Exists _
   exact ⟨(v1.N'), h, (fun i => i), ⟨(rA <| rE rfl <| rE rfl <| rE rfl <| rX <| rX <| rX <| rX <| rX <| rX <| rV <| rA <| rN), (hE rfl <| hE rfl <| hO rfl <| hE rfl <| hN), rfl, rfl, (roE rfl <| roE rfl <| roE (Qd _ _ _) <| roE rfl <| roN)⟩⟩
 rintro c9 h
 dsimp only [Yh] at h
 refine J2 (σ := Int) (fun _ => (.any :: .ptr 0 0 :: .ptr 1 0 :: .ptr 3 0 :: a16 (a16 (a16 (a4 (.any :: [])))) : List AV)) (fun c22 => (.cells (iI v.Kind :: iW v.N' :: iS v.Text :: .p (.slice 4 (Q0.rows v.Items)) :: []) :: .cells (iI 0 :: iW 0 :: iS [] :: .p .nilSlice :: []) :: .cells (Wt Q0.cells v1.Items) :: .cells (iI v1.Kind :: iW c22 :: iS v1.Text :: .slice 4 2 0 v1.Items.length :: []) :: [] : List AObj)) (fun c22 => Zw R_polyglotref18_Norm N v v1 c22 = some r) (fun _ _ => lb) ?_ ?_
 ·refine J2 (σ := Bool) (fun s25 => (.any :: .ptr 0 0 :: .ptr 1 0 :: .ptr 3 0 :: a16 (a16 (.any :: .p (.bool s25) :: a16 (a2 (.any :: [])))) : List AV)) (fun _ => (.cells (iI v.Kind :: iW v.N' :: iS v.Text :: .p (.slice 4 (Q0.rows v.Items)) :: []) :: .cells (iI 0 :: iW 0 :: iS [] :: .p .nilSlice :: []) :: .cells (Wt Q0.cells v1.Items) :: .cells (iI v1.Kind :: iW c9 :: iS v1.Text :: .slice 4 2 0 v1.Items.length :: []) :: [] : List AObj)) (fun s25 => Xk N (Zw R_polyglotref18_Norm N v v1) c9 s25 = some r) (fun _ _ => lb) ?_ ?_
  ·apply iU h <;> intro h
   ·apply iU h <;> intro h
    ·show Exists _
     exact ⟨((Q5 .neq (Q1d .u64 v.N' 4503599627370495) 0)), h, (fun i => i), ⟨(rA <| rE rfl <| rE rfl <| rE rfl <| rX <| rX <| rX <| rX <| rA <| rE rfl <| rX <| rX <| rW <| rA <| rN), (hE rfl <| hE rfl <| hO rfl <| hE rfl <| hN), rfl, rfl, (roE rfl <| roE rfl <| roE (Qd _ _ _) <| roE rfl <| roN)⟩⟩
    ·show Exists _
     exact ⟨(false), h, (fun i => i), ⟨(rA <| rE rfl <| rE rfl <| rE rfl <| rX <| rX <| rX <| rX <| rA <| rE rfl <| rX <| rX <| rW <| rA <| rN), (hE rfl <| hE rfl <| hO rfl <| hE rfl <| hN), rfl, rfl, (roE rfl <| roE rfl <| roE (Qd _ _ _) <| roE rfl <| roN)⟩⟩
   ·show Exists _
    exact ⟨(false), h, (fun i => i), ⟨(rA <| rE rfl <| rE rfl <| rE rfl <| rX <| rX <| rX <| rX <| rA <| rE rfl <| rX <| rX <| rW <| rA <| rN), (hE rfl <| hE rfl <| hO rfl <| hE rfl <| hN), rfl, rfl, (roE rfl <| roE rfl <| roE (Qd _ _ _) <| roE rfl <| roN)⟩⟩
  rintro s25 h
  dsimp only [Xk] at h
  apply iU h <;> intro h
  ·show Exists _
   exact ⟨(9221120237041090560), h, (fun i => i), ⟨(rA <| rE rfl <| rE rfl <| rE rfl <| rX <| rX <| rX <| rX <| rX <| rX <| rV <| rA <| rN), (hE rfl <| hE rfl <| hO rfl <| hE rfl <| hN), rfl, rfl, (roE rfl <| roE rfl <| roE (Qd _ _ _) <| roE rfl <| roN)⟩⟩
  ·show Exists _
   exact ⟨(c9), h, (fun i => i), ⟨(rA <| rE rfl <| rE rfl <| rE rfl <| rX <| rX <| rX <| rX <| rX <| rX <| rV <| rA <| rN), (hE rfl <| hE rfl <| hO rfl <| hE rfl <| hN), rfl, rfl, (roE rfl <| roE rfl <| roE (Qd _ _ _) <| roE rfl <| roN)⟩⟩
 rintro c22 h
 dsimp only [Zw] at h
 refine lpC (τ := Int × (List Q0)) (fun ⟨i45, _⟩ => (.any :: .ptr 0 0 :: .ptr 1 0 :: .ptr 3 0 :: iI i45 :: a16 (a16 (a16 (a4 ([])))) : List AV)) (fun ⟨_, l46⟩ => (.cells (iI v.Kind :: iW v.N' :: iS v.Text :: .p (.slice 4 (Q0.rows v.Items)) :: []) :: .cells (iI 0 :: iW 0 :: iS [] :: .p .nilSlice :: []) :: .dead :: .cells (iI v1.Kind :: iW c22 :: iS v1.Text :: .slice 4 4 0 l46.length :: []) :: .cells (Wt Q0.cells l46) :: [] : List AObj)) (fun n4 ⟨i45, l46⟩ => Xi R_polyglotref18_Norm N v v1 c22 n4 i45 l46) (0, v1.Items) h (rho [0, 1, 2, 3, 2]) ⟨(rA <| rE rfl <| rE rfl <| rE rfl <| rE rfl <| rX <| rX <| rX <| rX <| rX <| rX <| rV <| rN), (hE rfl <| hE rfl <| hD <| hE rfl <| hO rfl <| hN), rfl, rfl, (roE rfl <| roE rfl <| roE rfl <| roE rfl <| roE (Qd _ _ _) <| roN)⟩ fun n4 ⟨i45, l46⟩ h => ?_
 simp only [Xi] at h
 apply iU h <;> intro h
 ·refine Qe ?_
  refine Q0.xR h fun y48 h => ?_
  refine cD h hR_polyglotref18_Norm (.cons q4 .nil) fun v50 h => ?_
  obtain ⟨y52, hy53, h⟩ := Q76 h
  refine Q3q (Qf5 hy53 (by simp)) ?_
  refine Q3q (Qgr (c := Q0.cells) (e := 4) (fun _ => rfl) hy53 (off := 0) (by omega) rfl (by decide)) ?_
  refine Qhc (c := Q0.cells) (e := 4) (fun _ => rfl) hy53 v50 (off := 0) (by first | omega | (simp only [Q1d, orI, Qw3, Qet, Gb, Q2s]; omega)) rfl (by simp) ?_
  show Exists _
  exact ⟨(n4, (IntKind.wrap .i64 (i45 + 1)), ((l46 : List Q0).set (Int.toNat i45) v50)), h, Nat.lt_succ_self _, (fun i => i), ⟨(rA <| rE rfl <| rE rfl <| rE rfl <| rE rfl <| rX <| rX <| rX <| rX <| rX <| rX <| rV <| rN), (hE rfl <| hE rfl <| hD <| hC rfl (rE rfl <| rE rfl <| rE rfl <| rL (by simp) rfl <| rN) <| hO rfl <| hN), rfl, rfl, (roE rfl <| roE rfl <| roE rfl <| roE rfl <| roE (Qd _ _ _) <| roN)⟩⟩
 ·obtain rfl := Qc h; exact (Frz.agg' (.cons (.p _) (.cons (.p _) (.cons (.p _) (.cons (Q0.frz_own (l := l46) rfl trivial (by simp)) .nil)))))
def Zr : Nat → Q0 → Option (Q0)
 | 0 => fun _ => none
 | N + 1 => Uc (Zr N) N
theorem Jr {N} {v} {r} (h : Zr N v = some r) : Qz Tryz.prog G1 34 [.agg (Q0.cells v)] (.agg (Q0.cells r)) := by
 induction N generalizing v r with
 | zero => simp [Zr] at h
 | succ N ih => exact Q4m (fun h => ih h) h
def V9 (N : Nat) (v : Q0) : Option (Bool) :=
 (Zr N v).bind fun v1 =>
 (Xy N v v1).bind fun v3 =>
 some v3
theorem Q3b {N} {v} {r} (h : V9 N v = some r) : Qz Tryz.prog G1 14 [.agg (Q0.cells v)] (.bool r) := by
 refine Q4 k14 ?_
 unfold V9 at h
 refine Qe ?_
 refine cD h Jr (.cons q4 .nil) fun v1 h => ?_
 refine cD h Q4h (.cons q4 p1) fun v3 h => ?_
 cases h; exact (.p _)
def Wm (_N : Nat) : Option (List Qf) :=
 some [(⟨64, 1, 0, false, false⟩ : Qf), (⟨65, 2, 0, false, false⟩ : Qf), (⟨66, 2, 0, false, false⟩ : Qf), (⟨86, 2, 1, false, false⟩ : Qf), (⟨80, 3, 1, false, false⟩ : Qf), (⟨96, 4, 2, false, false⟩ : Qf), (⟨67, 5, 0, false, false⟩ : Qf), (⟨82, 5, 1, false, false⟩ : Qf), (⟨112, 5, 4, false, false⟩ : Qf), (⟨68, 6, 0, false, false⟩ : Qf), (⟨83, 6, 1, false, false⟩ : Qf), (⟨128, 6, 8, false, false⟩ : Qf), (⟨81, 7, 1, false, false⟩ : Qf), (⟨97, 8, 2, false, false⟩ : Qf), (⟨84, 9, 1, false, false⟩ : Qf), (⟨113, 9, 4, false, false⟩ : Qf), (⟨85, 10, 1, false, false⟩ : Qf), (⟨129, 10, 8, false, false⟩ : Qf), (⟨114, 11, 4, false, false⟩ : Qf), (⟨130, 12, 8, false, false⟩ : Qf), (⟨116, 13, 4, false, false⟩ : Qf), (⟨132, 14, 8, false, false⟩ : Qf), (⟨148, 15, 16, false, false⟩ : Qf), (⟨115, 16, 4, false, false⟩ : Qf), (⟨131, 17, 8, false, false⟩ : Qf), (⟨152, 18, 16, false, false⟩ : Qf), (⟨160, 19, 1, true, false⟩ : Qf), (⟨176, 19, 4, true, false⟩ : Qf), (⟨161, 20, 1, true, false⟩ : Qf), (⟨177, 20, 4, true, false⟩ : Qf), (⟨163, 21, 1, true, false⟩ : Qf), (⟨179, 21, 4, true, false⟩ : Qf), (⟨69, 22, 0, false, true⟩ : Qf), (⟨192, 22, 1, true, true⟩ : Qf), (⟨208, 22, 4, true, true⟩ : Qf), (⟨193, 23, 1, true, true⟩ : Qf), (⟨209, 23, 4, true, true⟩ : Qf), (⟨224, 24, 1, true, true⟩ : Qf), (⟨240, 24, 4, true, true⟩ : Qf), (⟨0, 25, 0, false, true⟩ : Qf)]
theorem Q05 {N} {r} (h : Wm N = some r) : Qz Tryz.prog G1 58 [] (.slice 5 (J3 Qf.cells r)) := by
 refine Q4 k58 ?_
 unfold Wm at h
 obtain rfl := Qc h; exact (frz_own (c := Qf.cells) (l := ([(⟨64, 1, 0, false, false⟩ : Qf), (⟨65, 2, 0, false, false⟩ : Qf), (⟨66, 2, 0, false, false⟩ : Qf), (⟨86, 2, 1, false, false⟩ : Qf), (⟨80, 3, 1, false, false⟩ : Qf), (⟨96, 4, 2, false, false⟩ : Qf), (⟨67, 5, 0, false, false⟩ : Qf), (⟨82, 5, 1, false, false⟩ : Qf), (⟨112, 5, 4, false, false⟩ : Qf), (⟨68, 6, 0, false, false⟩ : Qf), (⟨83, 6, 1, false, false⟩ : Qf), (⟨128, 6, 8, false, false⟩ : Qf), (⟨81, 7, 1, false, false⟩ : Qf), (⟨97, 8, 2, false, false⟩ : Qf), (⟨84, 9, 1, false, false⟩ : Qf), (⟨113, 9, 4, false, false⟩ : Qf), (⟨85, 10, 1, false, false⟩ : Qf), (⟨129, 10, 8, false, false⟩ : Qf), (⟨114, 11, 4, false, false⟩ : Qf), (⟨130, 12, 8, false, false⟩ : Qf), (⟨116, 13, 4, false, false⟩ : Qf), (⟨132, 14, 8, false, false⟩ : Qf), (⟨148, 15, 16, false, false⟩ : Qf), (⟨115, 16, 4, false, false⟩ : Qf), (⟨131, 17, 8, false, false⟩ : Qf), (⟨152, 18, 16, false, false⟩ : Qf), (⟨160, 19, 1, true, false⟩ : Qf), (⟨176, 19, 4, true, false⟩ : Qf), (⟨161, 20, 1, true, false⟩ : Qf), (⟨177, 20, 4, true, false⟩ : Qf), (⟨163, 21, 1, true, false⟩ : Qf), (⟨179, 21, 4, true, false⟩ : Qf), (⟨69, 22, 0, false, true⟩ : Qf), (⟨192, 22, 1, true, true⟩ : Qf), (⟨208, 22, 4, true, true⟩ : Qf), (⟨193, 23, 1, true, true⟩ : Qf), (⟨209, 23, 4, true, true⟩ : Qf), (⟨224, 24, 1, true, true⟩ : Qf), (⟨240, 24, 4, true, true⟩ : Qf), (⟨0, 25, 0, false, true⟩ : Qf)] : List Qf)) (fun _ => rfl) rfl trivial (by simp))
def Y8 (N : Nat) (kind : Int) (v1 : List Qf) : Nat → Int → (List Int) → Option (List Int)
 | 0, _, _ => none
 | n + 1, i18, l19 =>
  cond (Q5 .lss i18 ((J3 Qf.cells v1).length : Int))
  ((idx v1 i18).bind fun y21 =>
  cond (Q5 .eql y21.Kind kind)
  ((idx v1 i18).bind fun y24 =>
  cond (Nat.ble ((l19.length + 1 + 4096) * 8) 17592186044416) (Y8 N kind v1 n (IntKind.wrap .i64 (i18 + 1)) (l19 ++ [y24.Code])) none)
  (Y8 N kind v1 n (IntKind.wrap .i64 (i18 + 1)) l19))
  (some l19)
def Vo (N : Nat) (kind : Int) : Option (List Int) :=
 (Wm N).bind fun v1 =>
 Y8 N kind v1 N 0 []
theorem Q3v {N} {kind} {r} (h : Vo N kind = some r) : Qz Tryz.prog G1 15 [.int .i64 kind] (.slice 1 (J3 (cI .i64) r)) := by
 refine Q4 k15 ?_
 unfold Vo at h
 refine cP h Q05 p0 fun v1 h => ?_
 refine lpC (τ := Int × (List Int)) (fun ⟨i18, l19⟩ => (iI kind :: .any :: .any :: .slice 1 0 0 l19.length :: .p (.slice 5 (J3 Qf.cells v1)) :: iI i18 :: a16 (a4 (a2 (.any :: []))) : List AV)) (fun ⟨_, l19⟩ => (.cells (Wt (cI .i64) l19) :: [] : List AObj)) (fun n0 ⟨i18, l19⟩ => Y8 N kind v1 n0 i18 l19) (0, []) h (fun i => i) ⟨(rE rfl <| rW <| rS <| rE rfl <| rE rfl <| rX <| rX <| rV <| rW <| rA <| rN), (hV lb <| hN), rfl, rfl, (roE (Qd _ _ _) <| roN)⟩ fun n0 ⟨i18, l19⟩ h => ?_
 simp only [Y8] at h
 apply iU h <;> intro h
 ·refine xR h fun y21 h => ?_
  apply iU h <;> intro h
  ·refine xR h fun y24 h => ?_
   obtain ⟨hk26, h⟩ := Q7i h
   refine Q3q (Vr (c := (cI .i64)) (e := 1) (fun _ => rfl) (by simp) hk26) ?_
   refine Jm (c := (cI .i64)) [y24.Code] rfl ?_
   show Exists _
   exact ⟨(n0, (IntKind.wrap .i64 (i18 + 1)), (l19 ++ [y24.Code])), h, Nat.lt_succ_self _, (rho [2]), ⟨(rE rfl <| rW <| rL (by simp) rfl <| rE rfl <| rE rfl <| rX <| rX <| rV <| rW <| rA <| rN), (hO rfl <| hN), rfl, rfl, (roE (Qd _ _ _) <| roN)⟩⟩
  ·show Exists _
   exact ⟨(n0, (IntKind.wrap .i64 (i18 + 1)), l19), h, Nat.lt_succ_self _, (fun i => i), ⟨(rE rfl <| rW <| rE rfl <| rE rfl <| rE rfl <| rX <| rX <| rV <| rW <| rA <| rN), (hO rfl <| hN), rfl, rfl, (roE (Qd _ _ _) <| roN)⟩⟩
 ·obtain rfl := Qc h; exact (frz_own (c := (cI .i64)) (l := (l19 : List Int)) (fun _ => rfl) rfl trivial (by simp))
def Wi (N : Nat) (code : Int) (v1 : List Qf) : Nat → Int → Option (Qf × Bool)
 | 0, _ => none
 | n + 1, i16 =>
  cond (Q5 .lss i16 ((J3 Qf.cells v1).length : Int))
  ((idx v1 i16).bind fun y18 =>
  cond (Q5 .eql y18.Code code)
  ((idx v1 i16).bind fun y21 =>
  some (y21, true))
  (Wi N code v1 n (IntKind.wrap .i64 (i16 + 1))))
  (some ((⟨0, 0, 0, false, false⟩ : Qf), false))
def Zi (N : Nat) (code : Int) : Option (Qf × Bool) :=
 (Wm N).bind fun v1 =>
 Wi N code v1 N 0
theorem Yc {N} {code} {r} (h : Zi N code = some r) : Qz Tryz.prog G1 60 [.int .i64 code] (.tuple [.agg (Qf.cells r.1), .bool r.2]) := by
 refine Q4 k60 ?_
 unfold Zi at h
 refine cP h Q05 p0 fun v1 h => ?_
 refine lpC (τ := Int) (fun i16 => (iI code :: .any :: .ptr 0 0 :: .any :: .p (.slice 5 (J3 Qf.cells v1)) :: iI i16 :: a16 (a2 (.any :: [])) : List AV)) (fun _ => (.cells (iI 0 :: iI 0 :: iI 0 :: .p (.bool false) :: .p (.bool false) :: []) :: [] : List AObj)) (fun n0 i16 => Wi N code v1 n0 i16) (0) h (fun i => i) ⟨(rE rfl <| rA <| rE rfl <| rA <| rE rfl <| rE rfl <| rX <| rX <| rW <| rA <| rN), (hE rfl <| hN), rfl, rfl, (roE rfl <| roN)⟩ fun n0 i16 h => ?_
 simp only [Wi] at h
 apply iU h <;> intro h
 ·refine xR h fun y18 h => ?_
  apply iU h <;> intro h
  ·refine xR h fun y21 h => ?_
   obtain rfl := Qc h; exact (Frz.tuple' (.cons (Frz.agg' p5) p1))
  ·show Exists _
   exact ⟨(n0, (IntKind.wrap .i64 (i16 + 1))), h, Nat.lt_succ_self _, (fun i => i), ⟨(rE rfl <| rA <| rE rfl <| rA <| rE rfl <| rE rfl <| rX <| rX <| rW <| rA <| rN), (hE rfl <| hN), rfl, rfl, (roE rfl <| roN)⟩⟩
 ·obtain rfl := Qc h; exact (Frz.tuple' (.cons (Frz.agg' p5) p1))
def V2 (N : Nat) (code : Int) (v : Q0) : Option (Bool) :=
 (Zi N code).bind fun v1 =>
 cond (!v1.2)
 (some false)
 (cond (Q5 .neq v1.1.Kind v.Kind)
 (some false)
 ((Qw N v).bind fun v5 =>
 cond (Q5 .neq v5 0)
 (some false)
 (cond (Q5 .eql code 65)
 (some (Q5 .eql v.N' 1))
 (cond (Q5 .eql v1.1.Width 0)
 (some (Q5 .eql v.N' 0))
 (cond v1.1.Sized
 (cond (Q5 .eql v1.1.Width 1)
 (some (Q5 .lss (v.Text.length : Int) 256))
 (cond (Q5 .eql code 82)
 (some (Q5 .lss v.N' 256))
 (cond (Q5 .eql code 83)
 (some (Q5 .lss v.N' 256))
 (cond (Q5 .eql code 84)
 ((Zl N v.N' 8).bind fun v15 =>
 some v15)
 (cond (Q5 .eql code 85)
 ((Zl N v.N' 8).bind fun v18 =>
 some v18)
 (some true))))))
 (cond (Q5 .eql code 82)
 (some (Q5 .lss v.N' 256))
 (cond (Q5 .eql code 83)
 (some (Q5 .lss v.N' 256))
 (cond (Q5 .eql code 84)
 ((Zl N v.N' 8).bind fun v23 =>
 some v23)
 (cond (Q5 .eql code 85)
 ((Zl N v.N' 8).bind fun v26 =>
 some v26)
 (some true))))))))))
theorem Q0p {N} {code} {v} {r} (h : V2 N code v = some r) : Qz Tryz.prog G1 59 [.int .i64 code, .agg (Q0.cells v)] (.bool r) := by
 refine Q4 k59 ?_
 unfold V2 at h
 refine cP h Yc p1 fun v1 h => ?_
 apply iU h <;> intro h
 ·cases h; exact (.p _)
 ·apply iU h <;> intro h
  ·cases h; exact (.p _)
  ·refine cP h Zo (.cons q4 .nil) fun v5 h => ?_
   apply iU h <;> intro h
   ·cases h; exact (.p _)
   ·apply iU h <;> intro h
    ·cases h; exact (.p _)
    ·apply iU h <;> intro h
     ·cases h; exact (.p _)
     ·apply iU h <;> intro h
      ·apply iU h <;> intro h
       ·cases h; exact (.p _)
       ·apply iU h <;> intro h
        ·cases h; exact (.p _)
        ·apply iU h <;> intro h
         ·cases h; exact (.p _)
         ·apply iU h <;> intro h
          ·refine cP h W9 p2 fun v15 h => ?_
           cases h; exact (.p _)
          ·apply iU h <;> intro h
           ·refine cP h W9 p2 fun v18 h => ?_
            cases h; exact (.p _)
           ·cases h; exact (.p _)
      ·apply iU h <;> intro h
       ·cases h; exact (.p _)
       ·apply iU h <;> intro h
        ·cases h; exact (.p _)
        ·apply iU h <;> intro h
         ·refine cP h W9 p2 fun v23 h => ?_
          cases h; exact (.p _)
         ·apply iU h <;> intro h
          ·refine cP h W9 p2 fun v26 h => ?_
           cases h; exact (.p _)
          ·cases h; exact (.p _)
def W2 (N : Nat) (width : Int) : Nat → Int → (List UInt8) → Int → Option (List UInt8)
 | 0, _, _, _ => none
 | n + 1, n8, out9, i10 =>
  cond (Q5 .lss i10 width)
  (cond (Nat.ble ([UInt8.ofNat (IntKind.wrap .u8 n8).toNat].length + out9.length) 4611686018427387904) (W2 N width n (Q2s .u64 n8 8) ([UInt8.ofNat (IntKind.wrap .u8 n8).toNat] ++ out9) (IntKind.wrap .i64 (i10 + 1))) none)
  (some out9)
def Xd (N : Nat) (n_0 : Int) (width : Int) : Option (List UInt8) :=
 W2 N width N n_0 [] 0
theorem Uu {N} {n_0} {width} {r} (h : Xd N n_0 width = some r) : Qz Tryz.prog G1 31 [.int .u64 n_0, .int .i64 width] (.str r) := by
 refine Q4 k31 ?_
 unfold Xd at h
 refine lpC (τ := Int × (List UInt8) × Int) (fun ⟨n8, out9, i10⟩ => (iW n8 :: iI width :: a2 (.any :: iS out9 :: iI i10 :: a8 (a4 (a2 ([])))) : List AV)) (fun ⟨_, _, _⟩ => ([] : List AObj)) (fun n0 ⟨n8, out9, i10⟩ => W2 N width n0 n8 out9 i10) (n_0, [], 0) h (fun i => i) ⟨(rE rfl <| rE rfl <| rW <| rA <| rE rfl <| rE rfl <| rX <| rV <| rW <| rN), (hN), rfl, rfl, (roN)⟩ fun n0 ⟨n8, out9, i10⟩ h => ?_
 simp only [W2] at h
 apply iU h <;> intro h
 ·refine kU h fun h => ?_
  show Exists _
  exact ⟨(n0, (Q2s .u64 n8 8), ([UInt8.ofNat (IntKind.wrap .u8 n8).toNat] ++ out9), (IntKind.wrap .i64 (i10 + 1))), h, Nat.lt_succ_self _, (fun i => i), ⟨(rE rfl <| rE rfl <| rW <| rA <| rE rfl <| rE rfl <| rX <| rV <| rW <| rN), (hN), rfl, rfl, (roN)⟩⟩
 ·cases h; exact (.p _)
def Us (N : Nat) (code : Int) (v : Q0) : Option ((List UInt8) × Int) :=
 (Qw N v).bind fun v1 =>
 cond (Q5 .neq v1 0)
 (some ([], v1))
 ((V2 N code v).bind fun v4 =>
 cond (!v4)
 (some ([], 2))
 ((Zi N code).bind fun v7 =>
 cond v7.1.Sized
 ((Xd N (IntKind.wrap .u64 (v.Text.length : Int)) v7.1.Width).bind fun v10 =>
 cond (Nat.ble (v10.length + v.Text.length) 4611686018427387904) (some ((v10 ++ v.Text), 0)) none)
 (cond (Q5 .eql v7.1.Width 16)
 (some (v.Text, 0))
 ((Xd N v.N' v7.1.Width).bind fun v14 =>
 some (v14, 0)))))
theorem Q56 {N} {code} {v} {r} (h : Us N code v = some r) : Qz Tryz.prog G1 16 [.int .i64 code, .agg (Q0.cells v)] (.tuple [.str r.1, .int .i64 r.2]) := by
 refine Q4 k16 ?_
 unfold Us at h
 refine cP h Zo (.cons q4 .nil) fun v1 h => ?_
 apply iU h <;> intro h
 ·obtain rfl := Qc h; exact u2
 ·refine cP h Q0p (.cons (.p _) (.cons q4 .nil)) fun v4 h => ?_
  apply iU h <;> intro h
  ·obtain rfl := Qc h; exact u2
  ·refine cP h Yc p1 fun v7 h => ?_
   apply iU h <;> intro h
   ·refine Qe ?_
    refine cD h Uu p2 fun v10 h => ?_
    refine kU h fun h => ?_
    obtain rfl := Qc h; exact u2
   ·apply iU h <;> intro h
    ·obtain rfl := Qc h; exact u2
    ·refine cP h Uu p2 fun v14 h => ?_
     obtain rfl := Qc h; exact u2
def Yk (N : Nat) (s_0 : List UInt8) : Nat → Int → Int → Option (Int)
 | 0, _, _ => none
 | n + 1, n9, i10 =>
  cond (Q5 .lss i10 (s_0.length : Int))
  ((idx s_0 i10).bind fun b12 =>
  Yk N s_0 n (orI .u64 (Gb .u64 n9 8) (IntKind.wrap .u64 (b12.toNat : Int))) (IntKind.wrap .i64 (i10 + 1)))
  (some n9)
def Y3 (N : Nat) (s_0 : List UInt8) : Option (Int) :=
 Yk N s_0 N 0 0
theorem Vi {N} {s_0} {r} (h : Y3 N s_0 = some r) : Qz Tryz.prog G1 82 [.str s_0] (.int .u64 r) := by
 refine Q4 k82 ?_
 unfold Y3 at h
 refine lpC (τ := Int × Int) (fun ⟨n9, i10⟩ => (iS s_0 :: .any :: .any :: iW n9 :: iI i10 :: a8 (a4 (a2 ([]))) : List AV)) (fun ⟨_, _⟩ => ([] : List AObj)) (fun n0 ⟨n9, i10⟩ => Yk N s_0 n0 n9 i10) (0, 0) h (fun i => i) ⟨(rE rfl <| rW <| rE rfl <| rE rfl <| rX <| rV <| rW <| rN), (hN), rfl, rfl, (roN)⟩ fun n0 ⟨n9, i10⟩ h => ?_
 simp only [Yk] at h
 apply iU h <;> intro h
 ·refine xB h fun b12 h => ?_
  show Exists _
  exact ⟨(n0, (orI .u64 (Gb .u64 n9 8) (IntKind.wrap .u64 (b12.toNat : Int))), (IntKind.wrap .i64 (i10 + 1))), h, Nat.lt_succ_self _, (fun i => i), ⟨(rE rfl <| rW <| rE rfl <| rE rfl <| rX <| rV <| rW <| rN), (hN), rfl, rfl, (roN)⟩⟩
 ·cases h; exact (.p _)
def Vn (N : Nat) (n_0 : Int) (kind : Int) (width : Int) : Option (Int) :=
 (Qk N kind).bind fun v1 =>
 cond (Q5 .lss v1 0)
 (cond (decide (0 ≤ (IntKind.wrap .u64 (IntKind.wrap .i64 ((IntKind.wrap .i64 (8 * width)) - 1))))) (cond (Q5 .geq n_0 (Gb .u64 1 (IntKind.wrap .u64 (IntKind.wrap .i64 ((IntKind.wrap .i64 (8 * width)) - 1)))))
 (some (IntKind.wrap .u64 ((IntKind.wrap .u64 (n_0 - (Gb .u64 1 (IntKind.wrap .u64 (IntKind.wrap .i64 ((IntKind.wrap .i64 (8 * width)) - 1)))))) - (Gb .u64 1 (IntKind.wrap .u64 (IntKind.wrap .i64 ((IntKind.wrap .i64 (8 * width)) - 1)))))))
 (some n_0)) none)
 (cond (Q5 .eql kind 10)
 (cond (decide (0 ≤ (IntKind.wrap .u64 (IntKind.wrap .i64 ((IntKind.wrap .i64 (8 * width)) - 1))))) (cond (Q5 .geq n_0 (Gb .u64 1 (IntKind.wrap .u64 (IntKind.wrap .i64 ((IntKind.wrap .i64 (8 * width)) - 1)))))
 (some (IntKind.wrap .u64 ((IntKind.wrap .u64 (n_0 - (Gb .u64 1 (IntKind.wrap .u64 (IntKind.wrap .i64 ((IntKind.wrap .i64 (8 * width)) - 1)))))) - (Gb .u64 1 (IntKind.wrap .u64 (IntKind.wrap .i64 ((IntKind.wrap .i64 (8 * width)) - 1)))))))
 (some n_0)) none)
 (some n_0))
theorem Q3o {N} {n_0} {kind} {width} {r} (h : Vn N n_0 kind width = some r) : Qz Tryz.prog G1 119 [.int .u64 n_0, .int .i64 kind, .int .i64 width] (.int .u64 r) := by
 refine Q4 Qzk ?_
 unfold Vn at h
 refine cP h Q0k p1 fun v1 h => ?_
 apply iU h <;> intro h
 ·refine kU h fun h => ?_
  apply iU h <;> intro h
  ·cases h; exact (.p _)
  ·cases h; exact (.p _)
 ·apply iU h <;> intro h
  ·refine kU h fun h => ?_
   apply iU h <;> intro h
   ·cases h; exact (.p _)
   ·cases h; exact (.p _)
  ·cases h; exact (.p _)
def Um (N : Nat) (code : Int) (s_1 : List UInt8) : Option (Q0 × Int × Int) :=
 (Zi N code).bind fun v1 =>
 cond (!v1.2)
 (some ((⟨0, 0, [], []⟩ : Q0), 0, 8))
 (cond v1.1.Items
 (some ((⟨0, 0, [], []⟩ : Q0), 0, 8))
 (cond (Q5 .lss (s_1.length : Int) v1.1.Width)
 (some ((⟨0, 0, [], []⟩ : Q0), 0, 3))
 (cond v1.1.Sized
 (cond (decide (0 ≤ v1.1.Width)) (cond (Nat.ble 0 v1.1.Width.toNat && Nat.ble v1.1.Width.toNat s_1.length) ((Y3 N ((s_1.take v1.1.Width.toNat).drop 0)).bind fun v9 =>
 cond (Q5 .gtr v9 (IntKind.wrap .u64 (IntKind.wrap .i64 ((s_1.length : Int) - v1.1.Width))))
 (some ((⟨0, 0, [], []⟩ : Q0), 0, 3))
 (cond (decide (0 ≤ (IntKind.wrap .i64 (v1.1.Width + (IntKind.wrap .i64 v9))))) (cond (Nat.ble v1.1.Width.toNat ((IntKind.wrap .i64 (v1.1.Width + (IntKind.wrap .i64 v9))).toNat) && Nat.ble ((IntKind.wrap .i64 (v1.1.Width + (IntKind.wrap .i64 v9))).toNat) s_1.length) ((Qw N (⟨v1.1.Kind, 0, ((s_1.take ((IntKind.wrap .i64 (v1.1.Width + (IntKind.wrap .i64 v9))).toNat)).drop v1.1.Width.toNat), []⟩ : Q0)).bind fun v14 =>
 cond (Q5 .eql v14 2)
 (some ((⟨0, 0, [], []⟩ : Q0), 0, 5))
 (cond (Q5 .neq v14 0)
 (some ((⟨0, 0, [], []⟩ : Q0), 0, v14))
 (some ((⟨v1.1.Kind, 0, ((s_1.take ((IntKind.wrap .i64 (v1.1.Width + (IntKind.wrap .i64 v9))).toNat)).drop v1.1.Width.toNat), []⟩ : Q0), (IntKind.wrap .i64 (v1.1.Width + (IntKind.wrap .i64 v9))), 0)))) none) none)) none) none)
 (cond (Q5 .eql v1.1.Width 16)
 (cond (Nat.ble 0 16 && Nat.ble 16 s_1.length) ((Qw N (⟨v1.1.Kind, 0, ((s_1.take 16).drop 0), []⟩ : Q0)).bind fun v20 =>
 cond (Q5 .eql v20 2)
 (some ((⟨0, 0, [], []⟩ : Q0), 0, 5))
 (cond (Q5 .neq v20 0)
 (some ((⟨0, 0, [], []⟩ : Q0), 0, v20))
 (some ((⟨v1.1.Kind, 0, ((s_1.take 16).drop 0), []⟩ : Q0), v1.1.Width, 0)))) none)
 (cond (Q5 .eql code 65)
 ((Qw N (⟨v1.1.Kind, 1, [], []⟩ : Q0)).bind fun v25 =>
 cond (Q5 .eql v25 2)
 (some ((⟨0, 0, [], []⟩ : Q0), 0, 5))
 (cond (Q5 .neq v25 0)
 (some ((⟨0, 0, [], []⟩ : Q0), 0, v25))
 (some ((⟨v1.1.Kind, 1, [], []⟩ : Q0), v1.1.Width, 0))))
 (cond (Q5 .gtr v1.1.Width 0)
 (cond (decide (0 ≤ v1.1.Width)) (cond (Nat.ble 0 v1.1.Width.toNat && Nat.ble v1.1.Width.toNat s_1.length) ((Y3 N ((s_1.take v1.1.Width.toNat).drop 0)).bind fun v32 =>
 (Vn N v32 v1.1.Kind v1.1.Width).bind fun v34 =>
 (Qw N (⟨v1.1.Kind, v34, [], []⟩ : Q0)).bind fun v36 =>
 cond (Q5 .eql v36 2)
 (some ((⟨0, 0, [], []⟩ : Q0), 0, 5))
 (cond (Q5 .neq v36 0)
 (some ((⟨0, 0, [], []⟩ : Q0), 0, v36))
 (some ((⟨v1.1.Kind, v34, [], []⟩ : Q0), v1.1.Width, 0)))) none) none)
 ((Qw N (⟨v1.1.Kind, 0, [], []⟩ : Q0)).bind fun v40 =>
 cond (Q5 .eql v40 2)
 (some ((⟨0, 0, [], []⟩ : Q0), 0, 5))
 (cond (Q5 .neq v40 0)
 (some ((⟨0, 0, [], []⟩ : Q0), 0, v40))
 (some ((⟨v1.1.Kind, 0, [], []⟩ : Q0), v1.1.Width, 0))))))))))
theorem Q57 {N} {code} {s_1} {r} (h : Um N code s_1 = some r) : Qz Tryz.prog G1 97 [.int .i64 code, .str s_1] (.tuple [.agg (Q0.cells r.1), .int .i64 r.2.1, .int .i64 r.2.2]) := by
 refine Q4 k97 ?_
 unfold Um at h
 refine cP h Yc p1 fun v1 h => ?_
 apply iU h <;> intro h
 ·obtain rfl := Qc h; exact (Frz.tuple' (.cons q4n p2))
 ·apply iU h <;> intro h
  ·obtain rfl := Qc h; exact (Frz.tuple' (.cons q4n p2))
  ·apply iU h <;> intro h
   ·obtain rfl := Qc h; exact (Frz.tuple' (.cons q4n p2))
   ·apply iU h <;> intro h
    ·obtain ⟨hk7, h⟩ := Q7i h
     refine Q3q hk7 ?_
     refine kU h fun h => ?_
     refine cP h Vi p1 fun v9 h => ?_
     apply iU h <;> intro h
     ·obtain rfl := Qc h; exact (Frz.tuple' (.cons q4n p2))
     ·refine Q3q hk7 ?_
      refine kU h fun h => ?_
      refine kU h fun h => ?_
      refine cP h Zo (.cons q4n .nil) fun v14 h => ?_
      apply iU h <;> intro h
      ·refine ifT (by unfold Q5; decide) ?_
       obtain rfl := Qc h; exact (Frz.tuple' (.cons q4n p2))
      ·apply iU h <;> intro h
       ·obtain rfl := Qc h; exact (Frz.tuple' (.cons q4n p2))
       ·obtain rfl := Qc h; exact (Frz.tuple' (.cons q4n p2))
    ·apply iU h <;> intro h
     ·refine kU h fun h => ?_
      refine cP h Zo (.cons q4n .nil) fun v20 h => ?_
      apply iU h <;> intro h
      ·refine ifT (by unfold Q5; decide) ?_
       obtain rfl := Qc h; exact (Frz.tuple' (.cons q4n p2))
      ·apply iU h <;> intro h
       ·obtain rfl := Qc h; exact (Frz.tuple' (.cons q4n p2))
       ·obtain rfl := Qc h; exact (Frz.tuple' (.cons q4n p2))
     ·apply iU h <;> intro h
      ·refine cP h Zo (.cons q4n .nil) fun v25 h => ?_
       apply iU h <;> intro h
       ·refine ifT (by unfold Q5; decide) ?_
        obtain rfl := Qc h; exact (Frz.tuple' (.cons q4n p2))
       ·apply iU h <;> intro h
        ·obtain rfl := Qc h; exact (Frz.tuple' (.cons q4n p2))
        ·obtain rfl := Qc h; exact (Frz.tuple' (.cons q4n p2))
      ·apply iU h <;> intro h
       ·refine Qe ?_
        refine kU h fun h => ?_
        refine kU h fun h => ?_
        refine cD h Vi p1 fun v32 h => ?_
        refine cD h Q3o p3 fun v34 h => ?_
        refine cP h Zo (.cons q4n .nil) fun v36 h => ?_
        apply iU h <;> intro h
        ·refine ifT (by unfold Q5; decide) ?_
         obtain rfl := Qc h; exact (Frz.tuple' (.cons q4n p2))
        ·apply iU h <;> intro h
         ·obtain rfl := Qc h; exact (Frz.tuple' (.cons q4n p2))
         ·obtain rfl := Qc h; exact (Frz.tuple' (.cons q4n p2))
       ·refine cP h Zo (.cons q4n .nil) fun v40 h => ?_
        apply iU h <;> intro h
        ·refine ifT (by unfold Q5; decide) ?_
         obtain rfl := Qc h; exact (Frz.tuple' (.cons q4n p2))
        ·apply iU h <;> intro h
         ·obtain rfl := Qc h; exact (Frz.tuple' (.cons q4n p2))
         ·obtain rfl := Qc h; exact (Frz.tuple' (.cons q4n p2))
def V3 (_N : Nat) (v : Q0) : Option (Bool) :=
 cond (Q5 .eql v.Kind 11)
 (cond (Q5 .eql (Q1d .u64 v.N' 2139095040) 2139095040)
 (cond (Q5 .neq (Q1d .u64 v.N' 8388607) 0)
 (some true)
 (cond (Q5 .eql v.Kind 12)
 (cond (Q5 .eql (Q1d .u64 v.N' 9218868437227405312) 9218868437227405312)
 (some (Q5 .neq (Q1d .u64 v.N' 4503599627370495) 0))
 (some false))
 (some false)))
 (cond (Q5 .eql v.Kind 12)
 (cond (Q5 .eql (Q1d .u64 v.N' 9218868437227405312) 9218868437227405312)
 (some (Q5 .neq (Q1d .u64 v.N' 4503599627370495) 0))
 (some false))
 (some false)))
 (cond (Q5 .eql v.Kind 12)
 (cond (Q5 .eql (Q1d .u64 v.N' 9218868437227405312) 9218868437227405312)
 (some (Q5 .neq (Q1d .u64 v.N' 4503599627370495) 0))
 (some false))
 (some false))
theorem Q0m {N} {v} {r} (h : V3 N v = some r) : Qz Tryz.prog G1 141 [.agg (Q0.cells v)] (.bool r) := by
 refine Q4 Qys ?_
 unfold V3 at h
 apply iU h <;> intro h
 ·apply iU h <;> intro h
  ·apply iU h <;> intro h
   ·cases h; exact (.p _)
   ·apply iU h <;> intro h
    ·apply iU h <;> intro h
     ·cases h; exact (.p _)
     ·cases h; exact (.p _)
    ·cases h; exact (.p _)
  ·apply iU h <;> intro h
   ·apply iU h <;> intro h
    ·cases h; exact (.p _)
    ·cases h; exact (.p _)
   ·cases h; exact (.p _)
 ·apply iU h <;> intro h
  ·apply iU h <;> intro h
   ·cases h; exact (.p _)
   ·cases h; exact (.p _)
  ·cases h; exact (.p _)
def Yw (R_polyglotref17_alike : Q0 → Q0 → Option (Bool)) (N : Nat) (a : Q0) (b : Q0) : Nat → Int → Option (Bool)
 | 0, _ => none
 | n + 1, i28 =>
  cond (Q5 .lss i28 ((Q0.rows a.Items).length : Int))
  ((idx a.Items i28).bind fun y30 =>
  (idx b.Items i28).bind fun y32 =>
  (R_polyglotref17_alike y30 y32).bind fun v34 =>
  cond (!v34)
  (some false)
  (Yw R_polyglotref17_alike N a b n (IntKind.wrap .i64 (i28 + 1))))
  (some true)
def Yt (R_polyglotref17_alike : Q0 → Q0 → Option (Bool)) (N : Nat) (a : Q0) (b : Q0) : Nat → Int → Option (Bool)
 | 0, _ => none
 | n + 1, i56 =>
  cond (Q5 .lss i56 ((Q0.rows a.Items).length : Int))
  ((idx a.Items i56).bind fun y58 =>
  (idx b.Items i56).bind fun y60 =>
  (R_polyglotref17_alike y58 y60).bind fun v62 =>
  cond (!v62)
  (some false)
  (Yt R_polyglotref17_alike N a b n (IntKind.wrap .i64 (i56 + 1))))
  (some true)
def J8 (R_polyglotref17_alike : Q0 → Q0 → Option (Bool)) (N : Nat) (a : Q0) (b : Q0) : Option (Bool) :=
 cond (Q5 .neq a.Kind b.Kind)
 (some false)
 (cond (Q5 .neq a.N' b.N')
 ((V3 N a).bind fun v3 =>
 cond v3
 ((V3 N b).bind fun v6 =>
 cond (!v6)
 (some false)
 (cond (Q36 .neq a.Text b.Text)
 (some false)
 (cond (Q5 .neq ((Q0.rows a.Items).length : Int) ((Q0.rows b.Items).length : Int))
 (some false)
 (Yw R_polyglotref17_alike N a b N 0))))
 (some false))
 (cond (Q36 .neq a.Text b.Text)
 (some false)
 (cond (Q5 .neq ((Q0.rows a.Items).length : Int) ((Q0.rows b.Items).length : Int))
 (some false)
 (Yt R_polyglotref17_alike N a b N 0))))
theorem Q3u {R_polyglotref17_alike : Q0 → Q0 → Option (Bool)} (hR_polyglotref17_alike : ∀ {a} {b} {r}, R_polyglotref17_alike a b = some r → Qz Tryz.prog G1 121 [.agg (Q0.cells a), .agg (Q0.cells b)] (.bool r)) {N} {a} {b} {r} (h : J8 R_polyglotref17_alike N a b = some r) : Qz Tryz.prog G1 121 [.agg (Q0.cells a), .agg (Q0.cells b)] (.bool r) := by
 refine Q4 Z0f ?_
 unfold J8 at h
 apply iU h <;> intro h
 ·cases h; exact (.p _)
 ·apply iU h <;> intro h
  ·refine cP h Q0m (.cons q4 .nil) fun v3 h => ?_
   apply iU h <;> intro h
   ·refine cP h Q0m (.cons q4 .nil) fun v6 h => ?_
    apply iU h <;> intro h
    ·cases h; exact (.p _)
    ·apply iU h <;> intro h
     ·cases h; exact (.p _)
     ·apply iU h <;> intro h
      ·cases h; exact (.p _)
      ·refine lpC (τ := Int) (fun i28 => (.any :: .any :: .ptr 0 0 :: .ptr 1 0 :: .any :: iI i28 :: a16 (a16 (a16 (a8 ([])))) : List AV)) (fun _ => (.cells (iI a.Kind :: iW a.N' :: iS a.Text :: .p (.slice 4 (Q0.rows a.Items)) :: []) :: .cells (iI b.Kind :: iW b.N' :: iS b.Text :: .p (.slice 4 (Q0.rows b.Items)) :: []) :: [] : List AObj)) (fun n0 i28 => Yw R_polyglotref17_alike N a b n0 i28) (0) h (fun i => i) ⟨(rW <| rE rfl <| rE rfl <| rA <| rE rfl <| rX <| rX <| rX <| rX <| rX <| rX <| rX <| rN), (hE rfl <| hE rfl <| hN), rfl, rfl, (roE rfl <| roE rfl <| roN)⟩ fun n0 i28 h => ?_
       simp only [Yw] at h
       apply iU h <;> intro h
       ·refine Qe ?_
        refine Q0.xR h fun y30 h => ?_
        refine Q0.xR h fun y32 h => ?_
        refine cD h hR_polyglotref17_alike (.cons q4 (.cons q4 .nil)) fun v34 h => ?_
        apply iU h <;> intro h
        ·cases h; exact (.p _)
        ·show Exists _
         exact ⟨(n0, (IntKind.wrap .i64 (i28 + 1))), h, Nat.lt_succ_self _, (fun i => i), ⟨(rW <| rE rfl <| rE rfl <| rA <| rE rfl <| rX <| rX <| rX <| rX <| rX <| rX <| rX <| rN), (hE rfl <| hE rfl <| hN), rfl, rfl, (roE rfl <| roE rfl <| roN)⟩⟩
       ·cases h; exact (.p _)
   ·cases h; exact (.p _)
  ·apply iU h <;> intro h
   ·cases h; exact (.p _)
   ·apply iU h <;> intro h
    ·cases h; exact (.p _)
    ·refine lpC (τ := Int) (fun i56 => (.any :: .any :: .ptr 0 0 :: .ptr 1 0 :: .any :: iI i56 :: a16 (a16 (a16 (a8 ([])))) : List AV)) (fun _ => (.cells (iI a.Kind :: iW a.N' :: iS a.Text :: .p (.slice 4 (Q0.rows a.Items)) :: []) :: .cells (iI b.Kind :: iW b.N' :: iS b.Text :: .p (.slice 4 (Q0.rows b.Items)) :: []) :: [] : List AObj)) (fun n1 i56 => Yt R_polyglotref17_alike N a b n1 i56) (0) h (fun i => i) ⟨(rW <| rE rfl <| rE rfl <| rA <| rE rfl <| rX <| rX <| rX <| rX <| rX <| rX <| rX <| rN), (hE rfl <| hE rfl <| hN), rfl, rfl, (roE rfl <| roE rfl <| roN)⟩ fun n1 i56 h => ?_
     simp only [Yt] at h
     apply iU h <;> intro h
     ·refine Qe ?_
      refine Q0.xR h fun y58 h => ?_
      refine Q0.xR h fun y60 h => ?_
      refine cD h hR_polyglotref17_alike (.cons q4 (.cons q4 .nil)) fun v62 h => ?_
      apply iU h <;> intro h
      ·cases h; exact (.p _)
      ·show Exists _
       exact ⟨(n1, (IntKind.wrap .i64 (i56 + 1))), h, Nat.lt_succ_self _, (fun i => i), ⟨(rW <| rE rfl <| rE rfl <| rA <| rE rfl <| rX <| rX <| rX <| rX <| rX <| rX <| rX <| rN), (hE rfl <| hE rfl <| hN), rfl, rfl, (roE rfl <| roE rfl <| roN)⟩⟩
     ·cases h; exact (.p _)
def Xc : Nat → Q0 → Q0 → Option (Bool)
 | 0 => fun _ _ => none
 | N + 1 => J8 (Xc N) N
theorem Q41 {N} {a} {b} {r} (h : Xc N a b = some r) : Qz Tryz.prog G1 121 [.agg (Q0.cells a), .agg (Q0.cells b)] (.bool r) := by
 induction N generalizing a b r with
 | zero => simp [Xc] at h
 | succ N ih => exact Q3u (fun h => ih h) h
def Yv (N : Nat) (k0 : Int → Option (Bool)) (items : List Q0) (i30 : Int) : Nat → Int → Option (Bool)
 | 0, _ => none
 | n + 1, k49 =>
  cond (Q5 .lss k49 i30)
  ((idx items i30).bind fun y51 =>
  (idx items k49).bind fun y53 =>
  (Xc N y51 y53).bind fun v55 =>
  cond v55
  (some true)
  (Yv N k0 items i30 n (IntKind.wrap .i64 (k49 + 2))))
  (k0 (IntKind.wrap .i64 (i30 + 2)))
def Zn (N : Nat) (items : List Q0) : Nat → Int → Option (Bool)
 | 0, _ => none
 | n + 1, i30 =>
  cond (Q5 .lss i30 ((Q0.rows items).length : Int))
  (Yv N (Zn N items n) items i30 N 0)
  (some false)
def Yd (N : Nat) (items : List Q0) : Option (Bool) :=
 Zn N items N 0
theorem Jj {N} {items} {r} (h : Yd N items = some r) : Qz Tryz.prog G1 100 [.slice 4 (Q0.rows items)] (.bool r) := by
 refine Q4 Qz0 ?_
 unfold Yd at h
 refine lpC (τ := Int) (fun i30 => (.p (.slice 4 (Q0.rows items)) :: .any :: .any :: iI i30 :: a16 (a4 (.any :: [])) : List AV)) (fun _ => ([] : List AObj)) (fun n0 i30 => Zn N items n0 i30) (0) h (fun i => i) ⟨(rE rfl <| rW <| rE rfl <| rX <| rX <| rV <| rA <| rN), (hN), rfl, rfl, (roN)⟩ fun n0 i30 h => ?_
 simp only [Zn] at h
 apply iU h <;> intro h
 ·refine lpC (τ := Int) (fun k49 => (.p (.slice 4 (Q0.rows items)) :: .any :: .any :: iI i30 :: iI k49 :: a16 (a4 ([])) : List AV)) (fun _ => ([] : List AObj)) (fun n1 k49 => Yv N (Zn N items n0) items i30 n1 k49) (0) h (fun i => i) ⟨(rE rfl <| rW <| rE rfl <| rE rfl <| rX <| rX <| rV <| rN), (hN), rfl, rfl, (roN)⟩ fun n1 k49 h => ?_
  simp only [Yv] at h
  apply iU h <;> intro h
  ·refine Qe ?_
   refine Q0.xR h fun y51 h => ?_
   refine Q0.xR h fun y53 h => ?_
   refine cD h Q41 (.cons q4 (.cons q4 .nil)) fun v55 h => ?_
   apply iU h <;> intro h
   ·cases h; exact (.p _)
   ·show Exists _
    exact ⟨(n1, (IntKind.wrap .i64 (k49 + 2))), h, Nat.lt_succ_self _, (fun i => i), ⟨(rE rfl <| rW <| rE rfl <| rE rfl <| rX <| rX <| rV <| rN), (hN), rfl, rfl, (roN)⟩⟩
  ·show Exists _
   exact ⟨(n0, (IntKind.wrap .i64 (i30 + 2))), h, Nat.lt_succ_self _, (fun i => i), ⟨(rE rfl <| rW <| rE rfl <| rX <| rX <| rV <| rA <| rN), (hN), rfl, rfl, (roN)⟩⟩
 ·cases h; exact (.p _)
end
end
end Go.Av
