/- The law. Part of a proof of a given statement: for every input the law returns true and the arguments read as before; no condition beyond the given row. -/
import Derived.Test.YtkemhhfbpniioaaGreatDoorLiftF0
namespace Go.Av
noncomputable section
open Go.Proofs
set_option maxRecDepth 100000
set_option maxHeartbeats 4000000
attribute [local irreducible] U4 Xq Q6i Q6x Q5 Q22 Qc5
section
def W8 (R_amqcanon_formOf : Q0 → Option (Q1)) (N : Nat) (v : Q0) : Nat → Int → (List Q1) → Option (Q1)
 | 0, _, _ => none
 | n + 1, s14, l15 =>
  cond (Q5 .lss s14 ((Q0.rows v.Items).length : Int))
  ((idx v.Items s14).bind fun y17 =>
  (R_amqcanon_formOf y17).bind fun v19 =>
  cond (Nat.ble ((l15.length + 1 + 4096) * 96) 17592186044416) (W8 R_amqcanon_formOf N v n (IntKind.wrap .i64 (s14 + 1)) (l15 ++ [v19])) none)
  (cond (Q5 .eql v.Kind 24)
  ((V7 N (IntKind.wrap .i64 v.N') l15).bind fun v23 =>
  cond ((v.Kind : Int) == 22)
  ((Zr N (⟨v, l15, v23, 0⟩ : Q1)).bind fun v26 =>
  some (⟨v, l15, v23, v26⟩ : Q1))
  (cond ((v.Kind : Int) == 23)
  ((Zr N (⟨v, l15, v23, 0⟩ : Q1)).bind fun v29 =>
  some (⟨v, l15, v23, v29⟩ : Q1))
  (cond ((v.Kind : Int) == 24)
  ((Wp N (⟨v, l15, v23, 0⟩ : Q1)).bind fun v32 =>
  some (⟨v, l15, v23, v32⟩ : Q1))
  (some (⟨v, l15, v23, 0⟩ : Q1)))))
  (cond ((v.Kind : Int) == 22)
  ((Zr N (⟨v, l15, 0, 0⟩ : Q1)).bind fun v35 =>
  some (⟨v, l15, 0, v35⟩ : Q1))
  (cond ((v.Kind : Int) == 23)
  ((Zr N (⟨v, l15, 0, 0⟩ : Q1)).bind fun v38 =>
  some (⟨v, l15, 0, v38⟩ : Q1))
  (cond ((v.Kind : Int) == 24)
  ((Wp N (⟨v, l15, 0, 0⟩ : Q1)).bind fun v41 =>
  some (⟨v, l15, 0, v41⟩ : Q1))
  (some (⟨v, l15, 0, 0⟩ : Q1))))))
def Gh (R_amqcanon_formOf : Q0 → Option (Q1)) (N : Nat) (v : Q0) : Option (Q1) :=
 W8 R_amqcanon_formOf N v N 0 []
theorem Q4d {R_amqcanon_formOf : Q0 → Option (Q1)} (hR_amqcanon_formOf : ∀ {v} {r}, R_amqcanon_formOf v = some r → Zq Tryz.prog G1 63 [.agg (Q0.cells v)] (.agg (Q1.cells r))) {N} {v} {r} (h : Gh R_amqcanon_formOf N v = some r) : Zq Tryz.prog G1 63 [.agg (Q0.cells v)] (.agg (Q1.cells r)) := by
 refine Q4 k63 ?_
 unfold Gh at h
 refine lpC (τ := Int × (List Q1)) (fun ⟨s14, _⟩ => (.any :: .ptr 0 0 :: .ptr 1 0 :: .ptr 2 0 :: a8 (.p (.slice 4 (Q0.rows v.Items)) :: iI ((Q0.rows v.Items).length : Int) :: iI s14 :: a16 (a16 (a4 ([])))) : List AV)) (fun ⟨_, l15⟩ => (.cells (iI v.Kind :: iW v.N' :: iS v.Text :: .p (.slice 4 (Q0.rows v.Items)) :: []) :: .cells (iI 0 :: iW 0 :: iS [] :: .p .nilSlice :: .p .nilSlice :: iI 0 :: iI 0 :: []) :: .cells (iI v.Kind :: iW v.N' :: iS v.Text :: .p (.slice 4 (Q0.rows v.Items)) :: .slice 7 3 0 l15.length :: iI 0 :: iI 0 :: []) :: .cells (Wr Q1.cells l15) :: [] : List AObj)) (fun n0 ⟨s14, l15⟩ => W8 R_amqcanon_formOf N v n0 s14 l15) (0, []) h (fun i => i) ⟨(rA <| rE rfl <| rE rfl <| rE rfl <| rX <| rE rfl <| rE rfl <| rE rfl <| rX <| rX <| rX <| rX <| rV <| rN), (hE rfl <| hE rfl <| hC rfl (rE rfl <| rE rfl <| rE rfl <| rE rfl <| rS <| rE rfl <| rE rfl <| rN) <| hV lb <| hN), rfl, rfl, (roE rfl <| roE rfl <| roE rfl <| roE (Qh _ _ _) <| roN)⟩ fun n0 ⟨s14, l15⟩ h => ?_
 simp only [W8] at h
 apply iU h <;> intro h
 ·refine Q0.xR h fun y17 h => ?_
  refine Qo ?_
  refine cD h hR_amqcanon_formOf (.cons q4 .nil) fun v19 h => ?_
  obtain ⟨hk21, h⟩ := Q85 h
  refine Q46 (U2 (c := Q1.cells) (e := 7) (fun _ => rfl) (by simp) hk21) ?_
  refine Jd (c := Q1.cells) [v19] rfl ?_
  show Exists _
  exact ⟨(n0, (IntKind.wrap .i64 (s14 + 1)), (l15 ++ [v19])), h, Nat.lt_succ_self _, (rho [0, 1, 2, 6]), ⟨(rA <| rE rfl <| rE rfl <| rE rfl <| rX <| rE rfl <| rE rfl <| rE rfl <| rX <| rX <| rX <| rX <| rV <| rN), (hE rfl <| hE rfl <| hC rfl (rE rfl <| rE rfl <| rE rfl <| rE rfl <| rL (by simp) rfl <| rE rfl <| rE rfl <| rN) <| hO rfl <| hN), rfl, rfl, (roE rfl <| roE rfl <| roE rfl <| roE (Qh _ _ _) <| roN)⟩⟩
 ·apply iU h <;> intro h
  ·refine cK h Q0e (.cons (.p _) (.cons (Q1.frz_own (l := l15) rfl trivial (by simp)) .nil)) fun v23 h => ?_
   apply iU h <;> intro h
   ·refine cK h V5 (.cons (Frz.agg' (.cons (.p _) (.cons (.p _) (.cons (.p _) (.cons (.p _) (.cons (Q1.frz_own (l := l15) rfl trivial (by simp)) p2)))))) .nil) fun v26 h => ?_
    obtain rfl := Qb h; exact (Frz.agg' (.cons (.p _) (.cons (.p _) (.cons (.p _) (.cons (.p _) (.cons (Q1.frz_own (l := l15) rfl trivial (by simp)) p2))))))
   ·apply iU h <;> intro h
    ·refine cK h V5 (.cons (Frz.agg' (.cons (.p _) (.cons (.p _) (.cons (.p _) (.cons (.p _) (.cons (Q1.frz_own (l := l15) rfl trivial (by simp)) p2)))))) .nil) fun v29 h => ?_
     obtain rfl := Qb h; exact (Frz.agg' (.cons (.p _) (.cons (.p _) (.cons (.p _) (.cons (.p _) (.cons (Q1.frz_own (l := l15) rfl trivial (by simp)) p2))))))
    ·apply iU h <;> intro h
     ·refine cK h Jo (.cons (Frz.agg' (.cons (.p _) (.cons (.p _) (.cons (.p _) (.cons (.p _) (.cons (Q1.frz_own (l := l15) rfl trivial (by simp)) p2)))))) .nil) fun v32 h => ?_
      obtain rfl := Qb h; exact (Frz.agg' (.cons (.p _) (.cons (.p _) (.cons (.p _) (.cons (.p _) (.cons (Q1.frz_own (l := l15) rfl trivial (by simp)) p2))))))
     ·obtain rfl := Qb h; exact (Frz.agg' (.cons (.p _) (.cons (.p _) (.cons (.p _) (.cons (.p _) (.cons (Q1.frz_own (l := l15) rfl trivial (by simp)) p2))))))
  ·apply iU h <;> intro h
   ·refine cK h V5 (.cons (Frz.agg' (.cons (.p _) (.cons (.p _) (.cons (.p _) (.cons (.p _) (.cons (Q1.frz_own (l := l15) rfl trivial (by simp)) p2)))))) .nil) fun v35 h => ?_
    obtain rfl := Qb h; exact (Frz.agg' (.cons (.p _) (.cons (.p _) (.cons (.p _) (.cons (.p _) (.cons (Q1.frz_own (l := l15) rfl trivial (by simp)) p2))))))
   ·apply iU h <;> intro h
    ·refine cK h V5 (.cons (Frz.agg' (.cons (.p _) (.cons (.p _) (.cons (.p _) (.cons (.p _) (.cons (Q1.frz_own (l := l15) rfl trivial (by simp)) p2)))))) .nil) fun v38 h => ?_
     obtain rfl := Qb h; exact (Frz.agg' (.cons (.p _) (.cons (.p _) (.cons (.p _) (.cons (.p _) (.cons (Q1.frz_own (l := l15) rfl trivial (by simp)) p2))))))
    ·apply iU h <;> intro h
     ·refine cK h Jo (.cons (Frz.agg' (.cons (.p _) (.cons (.p _) (.cons (.p _) (.cons (.p _) (.cons (Q1.frz_own (l := l15) rfl trivial (by simp)) p2)))))) .nil) fun v41 h => ?_
      obtain rfl := Qb h; exact (Frz.agg' (.cons (.p _) (.cons (.p _) (.cons (.p _) (.cons (.p _) (.cons (Q1.frz_own (l := l15) rfl trivial (by simp)) p2))))))
     ·obtain rfl := Qb h; exact (Frz.agg' (.cons (.p _) (.cons (.p _) (.cons (.p _) (.cons (.p _) (.cons (Q1.frz_own (l := l15) rfl trivial (by simp)) p2))))))
def Vh : Nat → Q0 → Option (Q1)
 | 0 => fun _ => none
 | N + 1 => Gh (Vh N) N
theorem Q4f {N} {v} {r} (h : Vh N v = some r) : Zq Tryz.prog G1 63 [.agg (Q0.cells v)] (.agg (Q1.cells r)) := by
 induction N generalizing v r with
 | zero => simp [Vh] at h
 | succ N ih => exact Q4d (fun h => ih h) h
def W9 (N : Nat) (v : Q0) (most : Int) : Option ((List UInt8) × Int) :=
 (Uk N v most).bind fun v1 =>
 cond (Q5 .neq v1 0)
 (some ([], v1))
 ((Wm N v).bind fun v4 =>
 (Vh N v4).bind fun v6 =>
 (Zf N (⟨(⟨[]⟩ : Qw)⟩ : Q2) v6).bind fun v8 =>
 (Wx N v8.2.buffer).bind fun v10 =>
 some (v10.1, 0))
theorem Ue {N} {v} {most} {r} (h : W9 N v most = some r) : Zq Tryz.prog G1 17 [.agg (Q0.cells v), .int .i64 most] (.tuple [.str r.1, .int .i64 r.2]) := by
 refine Q4 k17 ?_
 unfold W9 at h
 refine cP h Q56 (.cons q4 p1) fun v1 h => ?_
 apply iU h <;> intro h
 ·obtain rfl := Qb h; exact u2
 ·refine cP h Q5j (.cons q4 .nil) fun v4 h => ?_
  refine cP h Q4f p1 fun v6 h => ?_
  refine cG h Q12 fun v8 h => ?_
  refine ⟨rho [1, 3], (.cells (iI v.Kind :: iW v.N' :: iS v.Text :: .p (.slice 4 (Q0.rows v.Items)) :: []) :: .cells (.slice 1 2 0 v8.2.buffer.b.length :: []) :: .cells (Wr (cI .u8) v8.2.buffer.b) :: []), .tuple [], ⟨(rE rfl <| rE rfl <| rN), (hC rfl (rS <| rN) <| hV lb <| hN), rfl, rfl, (roE rfl <| roE (Qh _ _ _) <| roN), rfl, (fK rfl rfl <| fR 0 rfl rfl rfl rfl <| fO 2 rfl rfl rfl <| fN), rfl⟩, ?_⟩
  refine cG h Q0u fun v10 h => ?_
  refine ⟨rho [1, 2], (.cells (iI v.Kind :: iW v.N' :: iS v.Text :: .p (.slice 4 (Q0.rows v.Items)) :: []) :: .cells (.slice 1 3 0 v10.2.b.length :: []) :: .dead :: .cells (Wr (cI .u8) v10.2.b) :: []), iS v10.1, ⟨(rE rfl <| rN), (hE rfl <| hO rfl <| hN), rfl, rfl, (roE rfl <| roE (Qh _ _ _) <| roN), rfl, (fK rfl rfl <| fR 0 rfl rfl rfl rfl <| fD <| fO 2 rfl rfl rfl <| fN), rfl⟩, ?_⟩
  obtain rfl := Qb h; exact u2
def Jx (_N : Nat) (l : List Q0) : Option (Q0) :=
 some (⟨22, 0, [], l⟩ : Q0)
theorem Q62 {N} {l} {r} (h : Jx N l = some r) : Zq Tryz.prog G1 30 [.slice 4 (Q0.rows l)] (.agg (Q0.cells r)) := by
 refine Q4 k30 ?_
 unfold Jx at h
 obtain rfl := Qb h; exact q4
def Ga (_N : Nat) (kind : Int) (n_1 : Int) : Option (Q0) :=
 some (⟨kind, n_1, [], []⟩ : Q0)
theorem Q14 {N} {kind} {n_1} {r} (h : Ga N kind n_1 = some r) : Zq Tryz.prog G1 39 [.int .i64 kind, .int .u64 n_1] (.agg (Q0.cells r)) := by
 refine Q4 k39 ?_
 unfold Ga at h
 obtain rfl := Qb h; exact q4n
def Vy (N : Nat) : Option (Bool) :=
 (Ga N 2 1).bind fun v1 =>
 (Ga N 1 0).bind fun v3 =>
 (W9 N (⟨22, 0, [], [v1, v3]⟩ : Q0) 2).bind fun v5 =>
 cond (Q5 .eql v5.2 0)
 (some (Q22 .eql v5.1 [192, 3, 2, 65, 64]))
 (some false)
theorem Q1z {N} {r} (h : Vy N = some r) : Zq Tryz.prog G1 12 [] (.bool r) := by
 refine Q4 k12 ?_
 unfold Vy at h
 refine cP h Q14 p2 fun v1 h => ?_
 refine cP h Q14 p2 fun v3 h => ?_
 refine Gt k30 ?_
 refine cK h Ue (.cons (Frz.agg' (.cons (.p _) (.cons (.p _) (.cons (.p _) (.cons (Q0.frz_own (l := [v1, v3]) rfl trivial (by simp)) .nil))))) p1) fun v5 h => ?_
 apply iU h <;> intro h
 ·cases h; exact (.p _)
 ·cases h; exact (.p _)
def Yf (N : Nat) (s_0 : List UInt8) : Nat → Int → Option (Bool)
 | 0, _ => none
 | n + 1, i10 =>
  cond (Q5 .lss i10 (s_0.length : Int))
  ((idx s_0 i10).bind fun b12 =>
  cond (Q5 .geq (b12.toNat : Int) 128)
  (some false)
  (Yf N s_0 n (IntKind.wrap .i64 (i10 + 1))))
  (some true)
def Ql (N : Nat) (s_0 : List UInt8) : Option (Bool) :=
 Yf N s_0 N 0
theorem Qr {N} {s_0} {r} (h : Ql N s_0 = some r) : Zq Tryz.prog G1 56 [.str s_0] (.bool r) := by
 refine Q4 k56 ?_
 unfold Ql at h
 refine lpC (τ := Int) (fun i10 => (iS s_0 :: .any :: .any :: iI i10 :: a8 (a2 ([])) : List AV)) (fun _ => ([] : List AObj)) (fun n0 i10 => Yf N s_0 n0 i10) (0) h (fun i => i) ⟨(rE rfl <| rW <| rE rfl <| rX <| rW <| rN), (hN), rfl, rfl, (roN)⟩ fun n0 i10 h => ?_
 simp only [Yf] at h
 apply iU h <;> intro h
 ·refine xB h fun b12 h => ?_
  apply iU h <;> intro h
  ·cases h; exact (.p _)
  ·show Exists _
   exact ⟨(n0, (IntKind.wrap .i64 (i10 + 1))), h, Nat.lt_succ_self _, (fun i => i), ⟨(rE rfl <| rW <| rE rfl <| rX <| rW <| rN), (hN), rfl, rfl, (roN)⟩⟩
 ·cases h; exact (.p _)
def Qi (_N : Nat) (kind : Int) : Option (Int) :=
 cond (Q5 .eql kind 2)
 (some 1)
 (cond (Q5 .eql kind 3)
 (some 8)
 (cond (Q5 .eql kind 4)
 (some 16)
 (cond (Q5 .eql kind 5)
 (some 32)
 (cond (Q5 .eql kind 11)
 (some 32)
 (cond (Q5 .eql kind 13)
 (some 32)
 (cond (Q5 .eql kind 16)
 (some 32)
 (cond (Q5 .eql kind 6)
 (some 64)
 (cond (Q5 .eql kind 12)
 (some 64)
 (cond (Q5 .eql kind 14)
 (some 64)
 (cond (Q5 .eql kind 17)
 (some 64)
 (cond (Q5 .eql kind 10)
 (some 64)
 (cond (Q5 .eql kind 7)
 (some (-8))
 (cond (Q5 .eql kind 8)
 (some (-16))
 (cond (Q5 .eql kind 9)
 (some (-32))
 (some 0)))))))))))))))
theorem G4 {N} {kind} {r} (h : Qi N kind = some r) : Zq Tryz.prog G1 83 [.int .i64 kind] (.int .i64 r) := by
 refine Q4 k83 ?_
 unfold Qi at h
 apply iU h <;> intro h
 ·cases h; exact (.p _)
 ·apply iU h <;> intro h
  ·cases h; exact (.p _)
  ·apply iU h <;> intro h
   ·cases h; exact (.p _)
   ·refine ifO h (fun hc4 h => ?_) (fun hc4 h => ?_)
    ·refine ifT hc4 ?_
     cases h; exact (.p _)
    ·refine ifO h (fun hc5 h => ?_) (fun hc5 h => ?_)
     ·refine ifT hc5 ?_
      cases h; exact (.p _)
     ·refine ifO h (fun hc6 h => ?_) (fun hc6 h => ?_)
      ·refine ifT hc6 ?_
       cases h; exact (.p _)
      ·apply iU h <;> intro h
       ·cases h; exact (.p _)
       ·refine ifO h (fun hc8 h => ?_) (fun hc8 h => ?_)
        ·refine ifT hc8 ?_
         cases h; exact (.p _)
        ·refine ifO h (fun hc9 h => ?_) (fun hc9 h => ?_)
         ·refine ifT hc9 ?_
          cases h; exact (.p _)
         ·refine ifO h (fun hc10 h => ?_) (fun hc10 h => ?_)
          ·refine ifT hc10 ?_
           cases h; exact (.p _)
          ·refine ifO h (fun hc11 h => ?_) (fun hc11 h => ?_)
           ·refine ifT hc11 ?_
            cases h; exact (.p _)
           ·apply iU h <;> intro h
            ·cases h; exact (.p _)
            ·apply iU h <;> intro h
             ·cases h; exact (.p _)
             ·apply iU h <;> intro h
              ·cases h; exact (.p _)
              ·apply iU h <;> intro h
               ·cases h; exact (.p _)
               ·cases h; exact (.p _)
def V9 (_N : Nat) (n_0 : Int) : Option (Bool) :=
 cond (Q5 .leq n_0 1114111)
 (cond (Q5 .lss n_0 55296)
 (some true)
 (some (Q5 .gtr n_0 57343)))
 (some false)
theorem Q27 {N} {n_0} {r} (h : V9 N n_0 = some r) : Zq Tryz.prog G1 84 [.int .u64 n_0] (.bool r) := by
 refine Q4 k84 ?_
 unfold V9 at h
 apply iU h <;> intro h
 ·apply iU h <;> intro h
  ·cases h; exact (.p _)
  ·cases h; exact (.p _)
 ·cases h; exact (.p _)
def We (_N : Nat) (n_0 : Int) (bits : Int) : Option (Bool) :=
 cond (decide (0 ≤ (IntKind.wrap .u64 (bits - 1)))) (cond (Q5 .lss n_0 (J8 .u64 1 (IntKind.wrap .u64 (bits - 1))))
 (some true)
 (some (Q5 .geq n_0 (IntKind.wrap .u64 (0 - (J8 .u64 1 (IntKind.wrap .u64 (bits - 1)))))))) none
theorem Q1e {N} {n_0} {bits} {r} (h : We N n_0 bits = some r) : Zq Tryz.prog G1 85 [.int .u64 n_0, .int .u64 bits] (.bool r) := by
 refine Q4 k85 ?_
 unfold We at h
 refine kU h fun h => ?_
 apply iU h <;> intro h
 ·cases h; exact (.p _)
 ·cases h; exact (.p _)
def Xe (N : Nat) (v : Q0) : Option (Bool) :=
 (Qi N v.Kind).bind fun v1 =>
 cond (Q5 .eql v.Kind 16)
 ((V9 N v.N').bind fun v4 =>
 some v4)
 (cond (Q5 .eql v1 0)
 (some (Q5 .eql v.N' 0))
 (cond (Q5 .lss v1 0)
 ((We N v.N' (IntKind.wrap .u64 (IntKind.wrap .i64 (0 - v1)))).bind fun v8 =>
 some v8)
 (cond (Q5 .eql v1 64)
 (some true)
 (cond (decide (0 ≤ (IntKind.wrap .u64 v1))) (some (Q5 .lss v.N' (J8 .u64 1 (IntKind.wrap .u64 v1)))) none))))
theorem Ja {N} {v} {r} (h : Xe N v = some r) : Zq Tryz.prog G1 53 [.agg (Q0.cells v)] (.bool r) := by
 refine Q4 k53 ?_
 unfold Xe at h
 refine cP h G4 p1 fun v1 h => ?_
 apply iU h <;> intro h
 ·refine cP h Q27 p1 fun v4 h => ?_
  cases h; exact (.p _)
 ·apply iU h <;> intro h
  ·cases h; exact (.p _)
  ·apply iU h <;> intro h
   ·refine cP h Q1e p2 fun v8 h => ?_
    cases h; exact (.p _)
   ·apply iU h <;> intro h
    ·cases h; exact (.p _)
    ·refine kU h fun h => ?_
     cases h; exact (.p _)
def Xv (_N : Nat) (kind : Int) : Option (Bool) :=
 cond (Q5 .eql kind 15)
 (some true)
 (cond (Q5 .geq kind 18)
 (some (Q5 .leq kind 21))
 (some false))
theorem Jl {N} {kind} {r} (h : Xv N kind = some r) : Zq Tryz.prog G1 54 [.int .i64 kind] (.bool r) := by
 refine Q4 k54 ?_
 unfold Xv at h
 apply iU h <;> intro h
 ·cases h; exact (.p _)
 ·apply iU h <;> intro h
  ·cases h; exact (.p _)
  ·cases h; exact (.p _)
def Q7 (_N : Nat) (s_0 : List UInt8) (i : Int) (low : Int) (high : Int) : Option (Bool) :=
 cond (Q5 .lss i (s_0.length : Int))
 ((idx s_0 i).bind fun b2 =>
 cond (Q5 .geq (b2.toNat : Int) low)
 ((idx s_0 i).bind fun b5 =>
 some (Q5 .leq (b5.toNat : Int) high))
 (some false))
 (some false)
theorem Qe {N} {s_0} {i} {low} {high} {r} (h : Q7 N s_0 i low high = some r) : Zq Tryz.prog G1 108 [.str s_0, .int .i64 i, .int .u8 low, .int .u8 high] (.bool r) := by
 refine Q4 Qxz ?_
 unfold Q7 at h
 apply iU h <;> intro h
 ·refine xB h fun b2 h => ?_
  apply iU h <;> intro h
  ·refine xB h fun b5 h => ?_
   cases h; exact (.p _)
  ·cases h; exact (.p _)
 ·cases h; exact (.p _)
def Ze (_N : Nat) (s139 : Bool) : Option (Int) :=
 cond s139
 (some 4)
 (some 0)
def Zt (N : Nat) (k4 : Bool → Option (Int)) (s_0 : List UInt8) (i : Int) (b1 : UInt8) (s170 : Bool) : Option (Int) :=
 cond s170
 (k4 s170)
 (cond (Q5 .eql (b1.toNat : Int) 244)
 ((Q7 N s_0 (IntKind.wrap .i64 (i + 1)) 128 143).bind fun v183 =>
 cond v183
 ((Q7 N s_0 (IntKind.wrap .i64 (i + 2)) 128 191).bind fun v186 =>
 cond v186
 ((Q7 N s_0 (IntKind.wrap .i64 (i + 3)) 128 191).bind fun v189 =>
 k4 v189)
 (k4 false))
 (k4 false))
 (k4 false))
def Y5 (N : Nat) (k4 : Bool → Option (Int)) (s_0 : List UInt8) (i : Int) (b1 : UInt8) (s149 : Bool) : Option (Int) :=
 cond s149
 (k4 s149)
 (cond (Q5 .geq (b1.toNat : Int) 241)
 (cond (Q5 .leq (b1.toNat : Int) 243)
 ((Q7 N s_0 (IntKind.wrap .i64 (i + 1)) 128 191).bind fun v173 =>
 cond v173
 ((Q7 N s_0 (IntKind.wrap .i64 (i + 2)) 128 191).bind fun v176 =>
 cond v176
 ((Q7 N s_0 (IntKind.wrap .i64 (i + 3)) 128 191).bind fun v179 =>
 Zt N k4 s_0 i b1 v179)
 (Zt N k4 s_0 i b1 false))
 (Zt N k4 s_0 i b1 false))
 (Zt N k4 s_0 i b1 false))
 (Zt N k4 s_0 i b1 false))
def Zs (N : Nat) (s_0 : List UInt8) (i : Int) (b1 : UInt8) (s50 : Bool) : Option (Int) :=
 cond s50
 (some 3)
 (cond (Q5 .eql (b1.toNat : Int) 240)
 ((Q7 N s_0 (IntKind.wrap .i64 (i + 1)) 144 191).bind fun v151 =>
 cond v151
 ((Q7 N s_0 (IntKind.wrap .i64 (i + 2)) 128 191).bind fun v154 =>
 cond v154
 ((Q7 N s_0 (IntKind.wrap .i64 (i + 3)) 128 191).bind fun v157 =>
 Y5 N (Ze N) s_0 i b1 v157)
 (Y5 N (Ze N) s_0 i b1 false))
 (Y5 N (Ze N) s_0 i b1 false))
 (Y5 N (Ze N) s_0 i b1 false))
def X0 (N : Nat) (k1 : Bool → Option (Int)) (s_0 : List UInt8) (i : Int) (b1 : UInt8) (s71 : Bool) : Option (Int) :=
 cond s71
 (k1 s71)
 (cond (Q5 .geq (b1.toNat : Int) 225)
 (cond (Q5 .leq (b1.toNat : Int) 239)
 (cond (Q5 .neq (b1.toNat : Int) 237)
 ((Q7 N s_0 (IntKind.wrap .i64 (i + 1)) 128 191).bind fun v82 =>
 cond v82
 ((Q7 N s_0 (IntKind.wrap .i64 (i + 2)) 128 191).bind fun v85 =>
 k1 v85)
 (k1 false))
 (k1 false))
 (k1 false))
 (k1 false))
def Yx (N : Nat) (k1 : Bool → Option (Int)) (s_0 : List UInt8) (i : Int) (b1 : UInt8) (s57 : Bool) : Option (Int) :=
 cond s57
 (k1 s57)
 (cond (Q5 .eql (b1.toNat : Int) 237)
 ((Q7 N s_0 (IntKind.wrap .i64 (i + 1)) 128 159).bind fun v73 =>
 cond v73
 ((Q7 N s_0 (IntKind.wrap .i64 (i + 2)) 128 191).bind fun v76 =>
 X0 N k1 s_0 i b1 v76)
 (X0 N k1 s_0 i b1 false))
 (X0 N k1 s_0 i b1 false))
def Yy (N : Nat) (s_0 : List UInt8) (i : Int) (b1 : UInt8) (s8 : Bool) : Option (Int) :=
 cond s8
 (some 2)
 (cond (Q5 .eql (b1.toNat : Int) 224)
 ((Q7 N s_0 (IntKind.wrap .i64 (i + 1)) 160 191).bind fun v59 =>
 cond v59
 ((Q7 N s_0 (IntKind.wrap .i64 (i + 2)) 128 191).bind fun v62 =>
 Yx N (Zs N s_0 i b1) s_0 i b1 v62)
 (Yx N (Zs N s_0 i b1) s_0 i b1 false))
 (Yx N (Zs N s_0 i b1) s_0 i b1 false))
def Va (N : Nat) (s_0 : List UInt8) (i : Int) : Option (Int) :=
 (idx s_0 i).bind fun b1 =>
 cond (Q5 .lss (b1.toNat : Int) 128)
 (some 1)
 (cond (Q5 .geq (b1.toNat : Int) 194)
 (cond (Q5 .leq (b1.toNat : Int) 223)
 ((Q7 N s_0 (IntKind.wrap .i64 (i + 1)) 128 191).bind fun v11 =>
 Yy N s_0 i b1 v11)
 (Yy N s_0 i b1 false))
 (Yy N s_0 i b1 false))
theorem Q2n {N} {s_0} {i} {r} (h : Va N s_0 i = some r) : Zq Tryz.prog G1 86 [.str s_0, .int .i64 i] (.int .i64 r) := by
 refine Q4 k86 ?_
 unfold Va at h
 refine xB h fun b1 h => ?_
 apply iU h <;> intro h
 ·cases h; exact (.p _)
 ·refine Vo (σ := Bool) (fun s8 => (iS s_0 :: iI i :: a2 (.any :: .p (.int .u8 (b1.toNat : Int)) :: a4 (a2 (.p (.bool s8) :: a16 (a16 (a16 (a16 (a16 (a16 (a16 (a16 ([]))))))))))) : List AV)) (fun _ => ([] : List AObj)) (fun s8 => Yy N s_0 i b1 s8 = some r) (fun _ _ => lb) ?_ ?_
  ·apply iU h <;> intro h
   ·apply iU h <;> intro h
    ·refine cP h Qe p4 fun v11 h => ?_
     show Exists _
     exact ⟨(v11), h, (fun i => i), ⟨(rE rfl <| rE rfl <| rW <| rA <| rE rfl <| rV <| rW <| rE rfl <| rX <| rX <| rX <| rX <| rX <| rX <| rX <| rX <| rX <| rX <| rX <| rX <| rX <| rX <| rX <| rX <| rN), (hN), rfl, rfl, (roN)⟩⟩
    ·show Exists _
     exact ⟨(false), h, (fun i => i), ⟨(rE rfl <| rE rfl <| rW <| rA <| rE rfl <| rV <| rW <| rE rfl <| rX <| rX <| rX <| rX <| rX <| rX <| rX <| rX <| rX <| rX <| rX <| rX <| rX <| rX <| rX <| rX <| rN), (hN), rfl, rfl, (roN)⟩⟩
   ·show Exists _
    exact ⟨(false), h, (fun i => i), ⟨(rE rfl <| rE rfl <| rW <| rA <| rE rfl <| rV <| rW <| rE rfl <| rX <| rX <| rX <| rX <| rX <| rX <| rX <| rX <| rX <| rX <| rX <| rX <| rX <| rX <| rX <| rX <| rN), (hN), rfl, rfl, (roN)⟩⟩
  rintro s8 h
  dsimp only [Yy] at h
  apply iU h <;> intro h
  ·cases h; exact (.p _)
  ·refine Vo (σ := Bool) (fun s50 => (iS s_0 :: iI i :: a2 (.any :: .p (.int .u8 (b1.toNat : Int)) :: a16 (a2 (.any :: .p (.bool s50) :: a16 (a16 (a16 (a16 (a16 (a16 (a16 (a2 (.any :: []))))))))))) : List AV)) (fun _ => ([] : List AObj)) (fun s50 => Zs N s_0 i b1 s50 = some r) (fun _ _ => lb) ?_ ?_
   ·refine Vo (σ := Bool) (fun s57 => (iS s_0 :: iI i :: a2 (.any :: .p (.int .u8 (b1.toNat : Int)) :: a16 (a2 (.any :: .p (.bool s57) :: a16 (a16 (a16 (a16 (a16 (a16 (a16 (a2 (.any :: []))))))))))) : List AV)) (fun _ => ([] : List AObj)) (fun s57 => Yx N (Zs N s_0 i b1) s_0 i b1 s57 = some r) (fun _ _ => lb) ?_ ?_
    ·apply iU h <;> intro h
     ·refine cP h Qe p4 fun v59 h => ?_
      apply iU h <;> intro h
      ·refine cP h Qe p4 fun v62 h => ?_
       show Exists _
       exact ⟨(v62), h, (fun i => i), ⟨(rE rfl <| rE rfl <| rW <| rA <| rE rfl <| rX <| rX <| rW <| rA <| rE rfl <| rX <| rX <| rX <| rX <| rX <| rX <| rX <| rX <| rX <| rX <| rX <| rX <| rX <| rX <| rW <| rA <| rN), (hN), rfl, rfl, (roN)⟩⟩
      ·show Exists _
       exact ⟨(false), h, (fun i => i), ⟨(rE rfl <| rE rfl <| rW <| rA <| rE rfl <| rX <| rX <| rW <| rA <| rE rfl <| rX <| rX <| rX <| rX <| rX <| rX <| rX <| rX <| rX <| rX <| rX <| rX <| rX <| rX <| rW <| rA <| rN), (hN), rfl, rfl, (roN)⟩⟩
     ·show Exists _
      exact ⟨(false), h, (fun i => i), ⟨(rE rfl <| rE rfl <| rW <| rA <| rE rfl <| rX <| rX <| rW <| rA <| rE rfl <| rX <| rX <| rX <| rX <| rX <| rX <| rX <| rX <| rX <| rX <| rX <| rX <| rX <| rX <| rW <| rA <| rN), (hN), rfl, rfl, (roN)⟩⟩
    rintro s57 h
    dsimp only [Yx] at h
    apply iU h <;> intro h
    ·show Exists _
     exact ⟨(s57), h, (fun i => i), ⟨(rE rfl <| rE rfl <| rW <| rA <| rE rfl <| rX <| rX <| rW <| rA <| rE rfl <| rX <| rX <| rX <| rX <| rX <| rX <| rX <| rX <| rX <| rX <| rX <| rX <| rX <| rX <| rW <| rA <| rN), (hN), rfl, rfl, (roN)⟩⟩
    ·refine Vo (σ := Bool) (fun s71 => (iS s_0 :: iI i :: a2 (.any :: .p (.int .u8 (b1.toNat : Int)) :: a16 (a2 (.any :: .p (.bool s71) :: a16 (a16 (a16 (a16 (a16 (a16 (a16 (a2 (.any :: []))))))))))) : List AV)) (fun _ => ([] : List AObj)) (fun s71 => X0 N (Zs N s_0 i b1) s_0 i b1 s71 = some r) (fun _ _ => lb) ?_ ?_
     ·apply iU h <;> intro h
      ·refine cP h Qe p4 fun v73 h => ?_
       apply iU h <;> intro h
       ·refine cP h Qe p4 fun v76 h => ?_
        show Exists _
        exact ⟨(v76), h, (fun i => i), ⟨(rE rfl <| rE rfl <| rW <| rA <| rE rfl <| rX <| rX <| rW <| rA <| rE rfl <| rX <| rX <| rX <| rX <| rX <| rX <| rX <| rX <| rX <| rX <| rX <| rX <| rX <| rX <| rW <| rA <| rN), (hN), rfl, rfl, (roN)⟩⟩
       ·show Exists _
        exact ⟨(false), h, (fun i => i), ⟨(rE rfl <| rE rfl <| rW <| rA <| rE rfl <| rX <| rX <| rW <| rA <| rE rfl <| rX <| rX <| rX <| rX <| rX <| rX <| rX <| rX <| rX <| rX <| rX <| rX <| rX <| rX <| rW <| rA <| rN), (hN), rfl, rfl, (roN)⟩⟩
      ·show Exists _
       exact ⟨(false), h, (fun i => i), ⟨(rE rfl <| rE rfl <| rW <| rA <| rE rfl <| rX <| rX <| rW <| rA <| rE rfl <| rX <| rX <| rX <| rX <| rX <| rX <| rX <| rX <| rX <| rX <| rX <| rX <| rX <| rX <| rW <| rA <| rN), (hN), rfl, rfl, (roN)⟩⟩
     rintro s71 h
     dsimp only [X0] at h
     apply iU h <;> intro h
     ·show Exists _
      exact ⟨(s71), h, (fun i => i), ⟨(rE rfl <| rE rfl <| rW <| rA <| rE rfl <| rX <| rX <| rW <| rA <| rE rfl <| rX <| rX <| rX <| rX <| rX <| rX <| rX <| rX <| rX <| rX <| rX <| rX <| rX <| rX <| rW <| rA <| rN), (hN), rfl, rfl, (roN)⟩⟩
     ·apply iU h <;> intro h
      ·apply iU h <;> intro h
       ·apply iU h <;> intro h
        ·refine cP h Qe p4 fun v82 h => ?_
         apply iU h <;> intro h
         ·refine cP h Qe p4 fun v85 h => ?_
          show Exists _
          exact ⟨(v85), h, (fun i => i), ⟨(rE rfl <| rE rfl <| rW <| rA <| rE rfl <| rX <| rX <| rW <| rA <| rE rfl <| rX <| rX <| rX <| rX <| rX <| rX <| rX <| rX <| rX <| rX <| rX <| rX <| rX <| rX <| rW <| rA <| rN), (hN), rfl, rfl, (roN)⟩⟩
         ·show Exists _
          exact ⟨(false), h, (fun i => i), ⟨(rE rfl <| rE rfl <| rW <| rA <| rE rfl <| rX <| rX <| rW <| rA <| rE rfl <| rX <| rX <| rX <| rX <| rX <| rX <| rX <| rX <| rX <| rX <| rX <| rX <| rX <| rX <| rW <| rA <| rN), (hN), rfl, rfl, (roN)⟩⟩
        ·show Exists _
         exact ⟨(false), h, (fun i => i), ⟨(rE rfl <| rE rfl <| rW <| rA <| rE rfl <| rX <| rX <| rW <| rA <| rE rfl <| rX <| rX <| rX <| rX <| rX <| rX <| rX <| rX <| rX <| rX <| rX <| rX <| rX <| rX <| rW <| rA <| rN), (hN), rfl, rfl, (roN)⟩⟩
       ·show Exists _
        exact ⟨(false), h, (fun i => i), ⟨(rE rfl <| rE rfl <| rW <| rA <| rE rfl <| rX <| rX <| rW <| rA <| rE rfl <| rX <| rX <| rX <| rX <| rX <| rX <| rX <| rX <| rX <| rX <| rX <| rX <| rX <| rX <| rW <| rA <| rN), (hN), rfl, rfl, (roN)⟩⟩
      ·show Exists _
       exact ⟨(false), h, (fun i => i), ⟨(rE rfl <| rE rfl <| rW <| rA <| rE rfl <| rX <| rX <| rW <| rA <| rE rfl <| rX <| rX <| rX <| rX <| rX <| rX <| rX <| rX <| rX <| rX <| rX <| rX <| rX <| rX <| rW <| rA <| rN), (hN), rfl, rfl, (roN)⟩⟩
   rintro s50 h
   dsimp only [Zs] at h
   apply iU h <;> intro h
   ·cases h; exact (.p _)
   ·refine Vo (σ := Bool) (fun s139 => (a16 (a16 (a16 (a16 (a8 (a4 (.p (.bool s139) :: a16 (a16 (a16 (a16 ([])))))))))) : List AV)) (fun _ => ([] : List AObj)) (fun s139 => Ze N s139 = some r) (fun _ _ => lb) ?_ ?_
    ·refine Vo (σ := Bool) (fun s149 => (iS s_0 :: iI i :: a2 (.any :: .p (.int .u8 (b1.toNat : Int)) :: a16 (a16 (a16 (a16 (a4 (a2 (.p (.bool s149) :: a16 (a16 (a16 (a16 ([]))))))))))) : List AV)) (fun _ => ([] : List AObj)) (fun s149 => Y5 N (Ze N) s_0 i b1 s149 = some r) (fun _ _ => lb) ?_ ?_
     ·apply iU h <;> intro h
      ·refine cP h Qe p4 fun v151 h => ?_
       apply iU h <;> intro h
       ·refine cP h Qe p4 fun v154 h => ?_
        apply iU h <;> intro h
        ·refine cP h Qe p4 fun v157 h => ?_
         show Exists _
         exact ⟨(v157), h, (fun i => i), ⟨(rE rfl <| rE rfl <| rW <| rA <| rE rfl <| rX <| rX <| rX <| rX <| rX <| rX <| rX <| rX <| rV <| rW <| rE rfl <| rX <| rX <| rX <| rX <| rX <| rX <| rX <| rX <| rN), (hN), rfl, rfl, (roN)⟩⟩
        ·show Exists _
         exact ⟨(false), h, (fun i => i), ⟨(rE rfl <| rE rfl <| rW <| rA <| rE rfl <| rX <| rX <| rX <| rX <| rX <| rX <| rX <| rX <| rV <| rW <| rE rfl <| rX <| rX <| rX <| rX <| rX <| rX <| rX <| rX <| rN), (hN), rfl, rfl, (roN)⟩⟩
       ·show Exists _
        exact ⟨(false), h, (fun i => i), ⟨(rE rfl <| rE rfl <| rW <| rA <| rE rfl <| rX <| rX <| rX <| rX <| rX <| rX <| rX <| rX <| rV <| rW <| rE rfl <| rX <| rX <| rX <| rX <| rX <| rX <| rX <| rX <| rN), (hN), rfl, rfl, (roN)⟩⟩
      ·show Exists _
       exact ⟨(false), h, (fun i => i), ⟨(rE rfl <| rE rfl <| rW <| rA <| rE rfl <| rX <| rX <| rX <| rX <| rX <| rX <| rX <| rX <| rV <| rW <| rE rfl <| rX <| rX <| rX <| rX <| rX <| rX <| rX <| rX <| rN), (hN), rfl, rfl, (roN)⟩⟩
     rintro s149 h
     dsimp only [Y5] at h
     apply iU h <;> intro h
     ·show Exists _
      exact ⟨(s149), h, (fun i => i), ⟨(rX <| rX <| rX <| rX <| rX <| rX <| rX <| rX <| rX <| rV <| rE rfl <| rX <| rX <| rX <| rX <| rX <| rX <| rX <| rX <| rN), (hN), rfl, rfl, (roN)⟩⟩
     ·refine Vo (σ := Bool) (fun s170 => (iS s_0 :: iI i :: a2 (.any :: .p (.int .u8 (b1.toNat : Int)) :: a16 (a16 (a16 (a16 (a4 (a2 (.p (.bool s170) :: a16 (a16 (a16 (a16 ([]))))))))))) : List AV)) (fun _ => ([] : List AObj)) (fun s170 => Zt N (Ze N) s_0 i b1 s170 = some r) (fun _ _ => lb) ?_ ?_
      ·apply iU h <;> intro h
       ·apply iU h <;> intro h
        ·refine cP h Qe p4 fun v173 h => ?_
         apply iU h <;> intro h
         ·refine cP h Qe p4 fun v176 h => ?_
          apply iU h <;> intro h
          ·refine cP h Qe p4 fun v179 h => ?_
           show Exists _
           exact ⟨(v179), h, (fun i => i), ⟨(rE rfl <| rE rfl <| rW <| rA <| rE rfl <| rX <| rX <| rX <| rX <| rX <| rX <| rX <| rX <| rV <| rW <| rE rfl <| rX <| rX <| rX <| rX <| rX <| rX <| rX <| rX <| rN), (hN), rfl, rfl, (roN)⟩⟩
          ·show Exists _
           exact ⟨(false), h, (fun i => i), ⟨(rE rfl <| rE rfl <| rW <| rA <| rE rfl <| rX <| rX <| rX <| rX <| rX <| rX <| rX <| rX <| rV <| rW <| rE rfl <| rX <| rX <| rX <| rX <| rX <| rX <| rX <| rX <| rN), (hN), rfl, rfl, (roN)⟩⟩
         ·show Exists _
          exact ⟨(false), h, (fun i => i), ⟨(rE rfl <| rE rfl <| rW <| rA <| rE rfl <| rX <| rX <| rX <| rX <| rX <| rX <| rX <| rX <| rV <| rW <| rE rfl <| rX <| rX <| rX <| rX <| rX <| rX <| rX <| rX <| rN), (hN), rfl, rfl, (roN)⟩⟩
        ·show Exists _
         exact ⟨(false), h, (fun i => i), ⟨(rE rfl <| rE rfl <| rW <| rA <| rE rfl <| rX <| rX <| rX <| rX <| rX <| rX <| rX <| rX <| rV <| rW <| rE rfl <| rX <| rX <| rX <| rX <| rX <| rX <| rX <| rX <| rN), (hN), rfl, rfl, (roN)⟩⟩
       ·show Exists _
        exact ⟨(false), h, (fun i => i), ⟨(rE rfl <| rE rfl <| rW <| rA <| rE rfl <| rX <| rX <| rX <| rX <| rX <| rX <| rX <| rX <| rV <| rW <| rE rfl <| rX <| rX <| rX <| rX <| rX <| rX <| rX <| rX <| rN), (hN), rfl, rfl, (roN)⟩⟩
      rintro s170 h
      dsimp only [Zt] at h
      apply iU h <;> intro h
      ·show Exists _
       exact ⟨(s170), h, (fun i => i), ⟨(rX <| rX <| rX <| rX <| rX <| rX <| rX <| rX <| rX <| rV <| rE rfl <| rX <| rX <| rX <| rX <| rX <| rX <| rX <| rX <| rN), (hN), rfl, rfl, (roN)⟩⟩
      ·apply iU h <;> intro h
       ·refine cP h Qe p4 fun v183 h => ?_
        apply iU h <;> intro h
        ·refine cP h Qe p4 fun v186 h => ?_
         apply iU h <;> intro h
         ·refine cP h Qe p4 fun v189 h => ?_
          show Exists _
          exact ⟨(v189), h, (fun i => i), ⟨(rX <| rX <| rX <| rX <| rX <| rX <| rX <| rX <| rX <| rV <| rE rfl <| rX <| rX <| rX <| rX <| rX <| rX <| rX <| rX <| rN), (hN), rfl, rfl, (roN)⟩⟩
         ·show Exists _
          exact ⟨(false), h, (fun i => i), ⟨(rX <| rX <| rX <| rX <| rX <| rX <| rX <| rX <| rX <| rV <| rE rfl <| rX <| rX <| rX <| rX <| rX <| rX <| rX <| rX <| rN), (hN), rfl, rfl, (roN)⟩⟩
        ·show Exists _
         exact ⟨(false), h, (fun i => i), ⟨(rX <| rX <| rX <| rX <| rX <| rX <| rX <| rX <| rX <| rV <| rE rfl <| rX <| rX <| rX <| rX <| rX <| rX <| rX <| rX <| rN), (hN), rfl, rfl, (roN)⟩⟩
       ·show Exists _
        exact ⟨(false), h, (fun i => i), ⟨(rX <| rX <| rX <| rX <| rX <| rX <| rX <| rX <| rX <| rV <| rE rfl <| rX <| rX <| rX <| rX <| rX <| rX <| rX <| rX <| rN), (hN), rfl, rfl, (roN)⟩⟩
    rintro s139 h
    dsimp only [Ze] at h
    apply iU h <;> intro h
    ·cases h; exact (.p _)
    ·cases h; exact (.p _)
def Yz (N : Nat) (s_0 : List UInt8) : Nat → Int → Option (Bool)
 | 0, _ => none
 | n + 1, i10 =>
  cond (Q5 .lss i10 (s_0.length : Int))
  ((Va N s_0 i10).bind fun v12 =>
  cond (Q5 .eql v12 0)
  (some false)
  (Yz N s_0 n (IntKind.wrap .i64 (i10 + v12))))
  (some true)
def Zo (N : Nat) (s_0 : List UInt8) : Option (Bool) :=
 Yz N s_0 N 0
theorem X1 {N} {s_0} {r} (h : Zo N s_0 = some r) : Zq Tryz.prog G1 55 [.str s_0] (.bool r) := by
 refine Q4 k55 ?_
 unfold Zo at h
 refine lpC (τ := Int) (fun i10 => (iS s_0 :: .any :: .any :: iI i10 :: a8 (a4 (.any :: [])) : List AV)) (fun _ => ([] : List AObj)) (fun n0 i10 => Yz N s_0 n0 i10) (0) h (fun i => i) ⟨(rE rfl <| rW <| rE rfl <| rX <| rV <| rA <| rN), (hN), rfl, rfl, (roN)⟩ fun n0 i10 h => ?_
 simp only [Yz] at h
 apply iU h <;> intro h
 ·refine cP h Q2n p2 fun v12 h => ?_
  apply iU h <;> intro h
  ·cases h; exact (.p _)
  ·show Exists _
   exact ⟨(n0, (IntKind.wrap .i64 (i10 + v12))), h, Nat.lt_succ_self _, (fun i => i), ⟨(rE rfl <| rW <| rE rfl <| rX <| rV <| rA <| rN), (hN), rfl, rfl, (roN)⟩⟩
 ·cases h; exact (.p _)
def Zg (N : Nat) (v : Q0) : Option (Int) :=
 cond (Q5 .eql v.Kind 15)
 (cond (Q5 .lss v.Kind 1)
 (some 8)
 (cond (Q5 .gtr v.Kind 21)
 (some 8)
 ((Xe N v).bind fun v4 =>
 cond (!v4)
 (some 2)
 (cond (Q5 .gtr ((Q0.rows v.Items).length : Int) 0)
 (some 2)
 ((Xv N v.Kind).bind fun v8 =>
 cond (!v8)
 (cond (Q22 .neq v.Text [])
 (some 2)
 (cond (Q5 .neq (v.Text.length : Int) 16)
 (some 2)
 (cond (Q5 .gtr (v.Text.length : Int) 1048576)
 (some 4)
 (cond (Q5 .eql v.Kind 20)
 ((Zo N v.Text).bind fun v15 =>
 cond (!v15)
 (some 6)
 (cond (Q5 .eql v.Kind 21)
 ((Ql N v.Text).bind fun v19 =>
 cond (!v19)
 (some 6)
 (some 0))
 (some 0)))
 (cond (Q5 .eql v.Kind 21)
 ((Ql N v.Text).bind fun v23 =>
 cond (!v23)
 (some 6)
 (some 0))
 (some 0))))))
 (cond (Q5 .neq (v.Text.length : Int) 16)
 (some 2)
 (cond (Q5 .gtr (v.Text.length : Int) 1048576)
 (some 4)
 (cond (Q5 .eql v.Kind 20)
 ((Zo N v.Text).bind fun v29 =>
 cond (!v29)
 (some 6)
 (cond (Q5 .eql v.Kind 21)
 ((Ql N v.Text).bind fun v33 =>
 cond (!v33)
 (some 6)
 (some 0))
 (some 0)))
 (cond (Q5 .eql v.Kind 21)
 ((Ql N v.Text).bind fun v37 =>
 cond (!v37)
 (some 6)
 (some 0))
 (some 0))))))))))
 (cond (Q5 .lss v.Kind 1)
 (some 8)
 (cond (Q5 .gtr v.Kind 21)
 (some 8)
 ((Xe N v).bind fun v42 =>
 cond (!v42)
 (some 2)
 (cond (Q5 .gtr ((Q0.rows v.Items).length : Int) 0)
 (some 2)
 ((Xv N v.Kind).bind fun v46 =>
 cond (!v46)
 (cond (Q22 .neq v.Text [])
 (some 2)
 (cond (Q5 .eql v.Kind 18)
 (cond (Q5 .neq (v.Text.length : Int) 16)
 (some 2)
 (cond (Q5 .gtr (v.Text.length : Int) 1048576)
 (some 4)
 (cond (Q5 .eql v.Kind 20)
 ((Zo N v.Text).bind fun v54 =>
 cond (!v54)
 (some 6)
 (cond (Q5 .eql v.Kind 21)
 ((Ql N v.Text).bind fun v58 =>
 cond (!v58)
 (some 6)
 (some 0))
 (some 0)))
 (cond (Q5 .eql v.Kind 21)
 ((Ql N v.Text).bind fun v62 =>
 cond (!v62)
 (some 6)
 (some 0))
 (some 0)))))
 (cond (Q5 .gtr (v.Text.length : Int) 1048576)
 (some 4)
 (cond (Q5 .eql v.Kind 20)
 ((Zo N v.Text).bind fun v67 =>
 cond (!v67)
 (some 6)
 (cond (Q5 .eql v.Kind 21)
 ((Ql N v.Text).bind fun v71 =>
 cond (!v71)
 (some 6)
 (some 0))
 (some 0)))
 (cond (Q5 .eql v.Kind 21)
 ((Ql N v.Text).bind fun v75 =>
 cond (!v75)
 (some 6)
 (some 0))
 (some 0))))))
 (cond (Q5 .eql v.Kind 18)
 (cond (Q5 .neq (v.Text.length : Int) 16)
 (some 2)
 (cond (Q5 .gtr (v.Text.length : Int) 1048576)
 (some 4)
 (cond (Q5 .eql v.Kind 20)
 ((Zo N v.Text).bind fun v82 =>
 cond (!v82)
 (some 6)
 (cond (Q5 .eql v.Kind 21)
 ((Ql N v.Text).bind fun v86 =>
 cond (!v86)
 (some 6)
 (some 0))
 (some 0)))
 (cond (Q5 .eql v.Kind 21)
 ((Ql N v.Text).bind fun v90 =>
 cond (!v90)
 (some 6)
 (some 0))
 (some 0)))))
 (cond (Q5 .gtr (v.Text.length : Int) 1048576)
 (some 4)
 (cond (Q5 .eql v.Kind 20)
 ((Zo N v.Text).bind fun v95 =>
 cond (!v95)
 (some 6)
 (cond (Q5 .eql v.Kind 21)
 ((Ql N v.Text).bind fun v99 =>
 cond (!v99)
 (some 6)
 (some 0))
 (some 0)))
 (cond (Q5 .eql v.Kind 21)
 ((Ql N v.Text).bind fun v103 =>
 cond (!v103)
 (some 6)
 (some 0))
 (some 0))))))))))
theorem Xu {N} {v} {r} (h : Zg N v = some r) : Zq Tryz.prog G1 13 [.agg (Q0.cells v)] (.int .i64 r) := by
 refine Q4 k13 ?_
 unfold Zg at h
 apply iU h <;> intro h
 ·apply iU h <;> intro h
  ·cases h; exact (.p _)
  ·apply iU h <;> intro h
   ·cases h; exact (.p _)
   ·refine cP h Ja (.cons q4 .nil) fun v4 h => ?_
    apply iU h <;> intro h
    ·cases h; exact (.p _)
    ·apply iU h <;> intro h
     ·cases h; exact (.p _)
     ·refine cP h Jl p1 fun v8 h => ?_
      apply iU h <;> intro h
      ·apply iU h <;> intro h
       ·cases h; exact (.p _)
       ·apply iU h <;> intro h
        ·cases h; exact (.p _)
        ·apply iU h <;> intro h
         ·cases h; exact (.p _)
         ·apply iU h <;> intro h
          ·refine cP h X1 p1 fun v15 h => ?_
           apply iU h <;> intro h
           ·cases h; exact (.p _)
           ·apply iU h <;> intro h
            ·refine cP h Qr p1 fun v19 h => ?_
             apply iU h <;> intro h
             ·cases h; exact (.p _)
             ·cases h; exact (.p _)
            ·cases h; exact (.p _)
          ·apply iU h <;> intro h
           ·refine cP h Qr p1 fun v23 h => ?_
            apply iU h <;> intro h
            ·cases h; exact (.p _)
            ·cases h; exact (.p _)
           ·cases h; exact (.p _)
      ·apply iU h <;> intro h
       ·cases h; exact (.p _)
       ·apply iU h <;> intro h
        ·cases h; exact (.p _)
        ·apply iU h <;> intro h
         ·refine cP h X1 p1 fun v29 h => ?_
          apply iU h <;> intro h
          ·cases h; exact (.p _)
          ·apply iU h <;> intro h
           ·refine cP h Qr p1 fun v33 h => ?_
            apply iU h <;> intro h
            ·cases h; exact (.p _)
            ·cases h; exact (.p _)
           ·cases h; exact (.p _)
         ·apply iU h <;> intro h
          ·refine cP h Qr p1 fun v37 h => ?_
           apply iU h <;> intro h
           ·cases h; exact (.p _)
           ·cases h; exact (.p _)
          ·cases h; exact (.p _)
 ·apply iU h <;> intro h
  ·cases h; exact (.p _)
  ·apply iU h <;> intro h
   ·cases h; exact (.p _)
   ·refine cP h Ja (.cons q4 .nil) fun v42 h => ?_
    apply iU h <;> intro h
    ·cases h; exact (.p _)
    ·apply iU h <;> intro h
     ·cases h; exact (.p _)
     ·refine cP h Jl p1 fun v46 h => ?_
      apply iU h <;> intro h
      ·apply iU h <;> intro h
       ·cases h; exact (.p _)
       ·apply iU h <;> intro h
        ·apply iU h <;> intro h
         ·cases h; exact (.p _)
         ·apply iU h <;> intro h
          ·cases h; exact (.p _)
          ·apply iU h <;> intro h
           ·refine cP h X1 p1 fun v54 h => ?_
            apply iU h <;> intro h
            ·cases h; exact (.p _)
            ·apply iU h <;> intro h
             ·refine cP h Qr p1 fun v58 h => ?_
              apply iU h <;> intro h
              ·cases h; exact (.p _)
              ·cases h; exact (.p _)
             ·cases h; exact (.p _)
           ·apply iU h <;> intro h
            ·refine cP h Qr p1 fun v62 h => ?_
             apply iU h <;> intro h
             ·cases h; exact (.p _)
             ·cases h; exact (.p _)
            ·cases h; exact (.p _)
        ·apply iU h <;> intro h
         ·cases h; exact (.p _)
         ·apply iU h <;> intro h
          ·refine cP h X1 p1 fun v67 h => ?_
           apply iU h <;> intro h
           ·cases h; exact (.p _)
           ·apply iU h <;> intro h
            ·refine cP h Qr p1 fun v71 h => ?_
             apply iU h <;> intro h
             ·cases h; exact (.p _)
             ·cases h; exact (.p _)
            ·cases h; exact (.p _)
          ·apply iU h <;> intro h
           ·refine cP h Qr p1 fun v75 h => ?_
            apply iU h <;> intro h
            ·cases h; exact (.p _)
            ·cases h; exact (.p _)
           ·cases h; exact (.p _)
      ·apply iU h <;> intro h
       ·apply iU h <;> intro h
        ·cases h; exact (.p _)
        ·apply iU h <;> intro h
         ·cases h; exact (.p _)
         ·apply iU h <;> intro h
          ·refine cP h X1 p1 fun v82 h => ?_
           apply iU h <;> intro h
           ·cases h; exact (.p _)
           ·apply iU h <;> intro h
            ·refine cP h Qr p1 fun v86 h => ?_
             apply iU h <;> intro h
             ·cases h; exact (.p _)
             ·cases h; exact (.p _)
            ·cases h; exact (.p _)
          ·apply iU h <;> intro h
           ·refine cP h Qr p1 fun v90 h => ?_
            apply iU h <;> intro h
            ·cases h; exact (.p _)
            ·cases h; exact (.p _)
           ·cases h; exact (.p _)
       ·apply iU h <;> intro h
        ·cases h; exact (.p _)
        ·apply iU h <;> intro h
         ·refine cP h X1 p1 fun v95 h => ?_
          apply iU h <;> intro h
          ·cases h; exact (.p _)
          ·apply iU h <;> intro h
           ·refine cP h Qr p1 fun v99 h => ?_
            apply iU h <;> intro h
            ·cases h; exact (.p _)
            ·cases h; exact (.p _)
           ·cases h; exact (.p _)
         ·apply iU h <;> intro h
          ·refine cP h Qr p1 fun v103 h => ?_
           apply iU h <;> intro h
           ·cases h; exact (.p _)
           ·cases h; exact (.p _)
          ·cases h; exact (.p _)
def Ws (_N : Nat) : Option (List Qd) :=
 some [(⟨64, 1, 0, false, false⟩ : Qd), (⟨65, 2, 0, false, false⟩ : Qd), (⟨66, 2, 0, false, false⟩ : Qd), (⟨86, 2, 1, false, false⟩ : Qd), (⟨80, 3, 1, false, false⟩ : Qd), (⟨96, 4, 2, false, false⟩ : Qd), (⟨67, 5, 0, false, false⟩ : Qd), (⟨82, 5, 1, false, false⟩ : Qd), (⟨112, 5, 4, false, false⟩ : Qd), (⟨68, 6, 0, false, false⟩ : Qd), (⟨83, 6, 1, false, false⟩ : Qd), (⟨128, 6, 8, false, false⟩ : Qd), (⟨81, 7, 1, false, false⟩ : Qd), (⟨97, 8, 2, false, false⟩ : Qd), (⟨84, 9, 1, false, false⟩ : Qd), (⟨113, 9, 4, false, false⟩ : Qd), (⟨85, 10, 1, false, false⟩ : Qd), (⟨129, 10, 8, false, false⟩ : Qd), (⟨114, 11, 4, false, false⟩ : Qd), (⟨130, 12, 8, false, false⟩ : Qd), (⟨116, 13, 4, false, false⟩ : Qd), (⟨132, 14, 8, false, false⟩ : Qd), (⟨148, 15, 16, false, false⟩ : Qd), (⟨115, 16, 4, false, false⟩ : Qd), (⟨131, 17, 8, false, false⟩ : Qd), (⟨152, 18, 16, false, false⟩ : Qd), (⟨160, 19, 1, true, false⟩ : Qd), (⟨176, 19, 4, true, false⟩ : Qd), (⟨161, 20, 1, true, false⟩ : Qd), (⟨177, 20, 4, true, false⟩ : Qd), (⟨163, 21, 1, true, false⟩ : Qd), (⟨179, 21, 4, true, false⟩ : Qd), (⟨69, 22, 0, false, true⟩ : Qd), (⟨192, 22, 1, true, true⟩ : Qd), (⟨208, 22, 4, true, true⟩ : Qd), (⟨193, 23, 1, true, true⟩ : Qd), (⟨209, 23, 4, true, true⟩ : Qd), (⟨224, 24, 1, true, true⟩ : Qd), (⟨240, 24, 4, true, true⟩ : Qd), (⟨0, 25, 0, false, true⟩ : Qd)]
theorem Q1r {N} {r} (h : Ws N = some r) : Zq Tryz.prog G1 58 [] (.slice 5 (G7 Qd.cells r)) := by
 refine Q4 k58 ?_
 unfold Ws at h
 obtain rfl := Qb h; exact (frz_own (c := Qd.cells) (l := ([(⟨64, 1, 0, false, false⟩ : Qd), (⟨65, 2, 0, false, false⟩ : Qd), (⟨66, 2, 0, false, false⟩ : Qd), (⟨86, 2, 1, false, false⟩ : Qd), (⟨80, 3, 1, false, false⟩ : Qd), (⟨96, 4, 2, false, false⟩ : Qd), (⟨67, 5, 0, false, false⟩ : Qd), (⟨82, 5, 1, false, false⟩ : Qd), (⟨112, 5, 4, false, false⟩ : Qd), (⟨68, 6, 0, false, false⟩ : Qd), (⟨83, 6, 1, false, false⟩ : Qd), (⟨128, 6, 8, false, false⟩ : Qd), (⟨81, 7, 1, false, false⟩ : Qd), (⟨97, 8, 2, false, false⟩ : Qd), (⟨84, 9, 1, false, false⟩ : Qd), (⟨113, 9, 4, false, false⟩ : Qd), (⟨85, 10, 1, false, false⟩ : Qd), (⟨129, 10, 8, false, false⟩ : Qd), (⟨114, 11, 4, false, false⟩ : Qd), (⟨130, 12, 8, false, false⟩ : Qd), (⟨116, 13, 4, false, false⟩ : Qd), (⟨132, 14, 8, false, false⟩ : Qd), (⟨148, 15, 16, false, false⟩ : Qd), (⟨115, 16, 4, false, false⟩ : Qd), (⟨131, 17, 8, false, false⟩ : Qd), (⟨152, 18, 16, false, false⟩ : Qd), (⟨160, 19, 1, true, false⟩ : Qd), (⟨176, 19, 4, true, false⟩ : Qd), (⟨161, 20, 1, true, false⟩ : Qd), (⟨177, 20, 4, true, false⟩ : Qd), (⟨163, 21, 1, true, false⟩ : Qd), (⟨179, 21, 4, true, false⟩ : Qd), (⟨69, 22, 0, false, true⟩ : Qd), (⟨192, 22, 1, true, true⟩ : Qd), (⟨208, 22, 4, true, true⟩ : Qd), (⟨193, 23, 1, true, true⟩ : Qd), (⟨209, 23, 4, true, true⟩ : Qd), (⟨224, 24, 1, true, true⟩ : Qd), (⟨240, 24, 4, true, true⟩ : Qd), (⟨0, 25, 0, false, true⟩ : Qd)] : List Qd)) (fun _ => rfl) rfl trivial (by simp))
def Xs (N : Nat) (code : Int) (v1 : List Qd) : Nat → Int → Option (Qd × Bool)
 | 0, _ => none
 | n + 1, i16 =>
  cond (Q5 .lss i16 ((G7 Qd.cells v1).length : Int))
  ((idx v1 i16).bind fun y18 =>
  cond (Q5 .eql y18.Code code)
  ((idx v1 i16).bind fun y21 =>
  some (y21, true))
  (Xs N code v1 n (IntKind.wrap .i64 (i16 + 1))))
  (some ((⟨0, 0, 0, false, false⟩ : Qd), false))
def Xb (N : Nat) (code : Int) : Option (Qd × Bool) :=
 (Ws N).bind fun v1 =>
 Xs N code v1 N 0
theorem Vw {N} {code} {r} (h : Xb N code = some r) : Zq Tryz.prog G1 60 [.int .i64 code] (.tuple [.agg (Qd.cells r.1), .bool r.2]) := by
 refine Q4 k60 ?_
 unfold Xb at h
 refine cP h Q1r p0 fun v1 h => ?_
 refine lpC (τ := Int) (fun i16 => (iI code :: .any :: .ptr 0 0 :: .any :: .p (.slice 5 (G7 Qd.cells v1)) :: iI i16 :: a16 (a2 (.any :: [])) : List AV)) (fun _ => (.cells (iI 0 :: iI 0 :: iI 0 :: .p (.bool false) :: .p (.bool false) :: []) :: [] : List AObj)) (fun n0 i16 => Xs N code v1 n0 i16) (0) h (fun i => i) ⟨(rE rfl <| rA <| rE rfl <| rA <| rE rfl <| rE rfl <| rX <| rX <| rW <| rA <| rN), (hE rfl <| hN), rfl, rfl, (roE rfl <| roN)⟩ fun n0 i16 h => ?_
 simp only [Xs] at h
 apply iU h <;> intro h
 ·refine xR h fun y18 h => ?_
  apply iU h <;> intro h
  ·refine xR h fun y21 h => ?_
   obtain rfl := Qb h; exact (Frz.tuple' (.cons (Frz.agg' p5) p1))
  ·show Exists _
   exact ⟨(n0, (IntKind.wrap .i64 (i16 + 1))), h, Nat.lt_succ_self _, (fun i => i), ⟨(rE rfl <| rA <| rE rfl <| rA <| rE rfl <| rE rfl <| rX <| rX <| rW <| rA <| rN), (hE rfl <| hN), rfl, rfl, (roE rfl <| roN)⟩⟩
 ·obtain rfl := Qb h; exact (Frz.tuple' (.cons (Frz.agg' p5) p1))
def Xd (N : Nat) (width : Int) : Nat → Int → (List UInt8) → Int → Option (List UInt8)
 | 0, _, _, _ => none
 | n + 1, n8, out9, i10 =>
  cond (Q5 .lss i10 width)
  (cond (Nat.ble ([UInt8.ofNat (IntKind.wrap .u8 n8).toNat].length + out9.length) 4611686018427387904) (Xd N width n (Q2d .u64 n8 8) ([UInt8.ofNat (IntKind.wrap .u8 n8).toNat] ++ out9) (IntKind.wrap .i64 (i10 + 1))) none)
  (some out9)
def Yr (N : Nat) (n_0 : Int) (width : Int) : Option (List UInt8) :=
 Xd N width N n_0 [] 0
theorem Vs {N} {n_0} {width} {r} (h : Yr N n_0 width = some r) : Zq Tryz.prog G1 31 [.int .u64 n_0, .int .i64 width] (.str r) := by
 refine Q4 k31 ?_
 unfold Yr at h
 refine lpC (τ := Int × (List UInt8) × Int) (fun ⟨n8, out9, i10⟩ => (iW n8 :: iI width :: a2 (.any :: iS out9 :: iI i10 :: a8 (a4 (a2 ([])))) : List AV)) (fun ⟨_, _, _⟩ => ([] : List AObj)) (fun n0 ⟨n8, out9, i10⟩ => Xd N width n0 n8 out9 i10) (n_0, [], 0) h (fun i => i) ⟨(rE rfl <| rE rfl <| rW <| rA <| rE rfl <| rE rfl <| rX <| rV <| rW <| rN), (hN), rfl, rfl, (roN)⟩ fun n0 ⟨n8, out9, i10⟩ h => ?_
 simp only [Xd] at h
 apply iU h <;> intro h
 ·refine kU h fun h => ?_
  show Exists _
  exact ⟨(n0, (Q2d .u64 n8 8), ([UInt8.ofNat (IntKind.wrap .u8 n8).toNat] ++ out9), (IntKind.wrap .i64 (i10 + 1))), h, Nat.lt_succ_self _, (fun i => i), ⟨(rE rfl <| rE rfl <| rW <| rA <| rE rfl <| rE rfl <| rX <| rV <| rW <| rN), (hN), rfl, rfl, (roN)⟩⟩
 ·cases h; exact (.p _)
def Y8 (N : Nat) (s_0 : List UInt8) : Nat → Int → Int → Option (Int)
 | 0, _, _ => none
 | n + 1, n9, i10 =>
  cond (Q5 .lss i10 (s_0.length : Int))
  ((idx s_0 i10).bind fun b12 =>
  Y8 N s_0 n (orI .u64 (J8 .u64 n9 8) (IntKind.wrap .u64 (b12.toNat : Int))) (IntKind.wrap .i64 (i10 + 1)))
  (some n9)
def Zy (N : Nat) (s_0 : List UInt8) : Option (Int) :=
 Y8 N s_0 N 0 0
theorem Wk {N} {s_0} {r} (h : Zy N s_0 = some r) : Zq Tryz.prog G1 82 [.str s_0] (.int .u64 r) := by
 refine Q4 k82 ?_
 unfold Zy at h
 refine lpC (τ := Int × Int) (fun ⟨n9, i10⟩ => (iS s_0 :: .any :: .any :: iW n9 :: iI i10 :: a8 (a4 (a2 ([]))) : List AV)) (fun ⟨_, _⟩ => ([] : List AObj)) (fun n0 ⟨n9, i10⟩ => Y8 N s_0 n0 n9 i10) (0, 0) h (fun i => i) ⟨(rE rfl <| rW <| rE rfl <| rE rfl <| rX <| rV <| rW <| rN), (hN), rfl, rfl, (roN)⟩ fun n0 ⟨n9, i10⟩ h => ?_
 simp only [Y8] at h
 apply iU h <;> intro h
 ·refine xB h fun b12 h => ?_
  show Exists _
  exact ⟨(n0, (orI .u64 (J8 .u64 n9 8) (IntKind.wrap .u64 (b12.toNat : Int))), (IntKind.wrap .i64 (i10 + 1))), h, Nat.lt_succ_self _, (fun i => i), ⟨(rE rfl <| rW <| rE rfl <| rE rfl <| rX <| rV <| rW <| rN), (hN), rfl, rfl, (roN)⟩⟩
 ·cases h; exact (.p _)
def Wt (N : Nat) (n_0 : Int) (kind : Int) (width : Int) : Option (Int) :=
 (Qi N kind).bind fun v1 =>
 cond (Q5 .lss v1 0)
 (cond (decide (0 ≤ (IntKind.wrap .u64 (IntKind.wrap .i64 ((IntKind.wrap .i64 (8 * width)) - 1))))) (cond (Q5 .geq n_0 (J8 .u64 1 (IntKind.wrap .u64 (IntKind.wrap .i64 ((IntKind.wrap .i64 (8 * width)) - 1)))))
 (some (IntKind.wrap .u64 ((IntKind.wrap .u64 (n_0 - (J8 .u64 1 (IntKind.wrap .u64 (IntKind.wrap .i64 ((IntKind.wrap .i64 (8 * width)) - 1)))))) - (J8 .u64 1 (IntKind.wrap .u64 (IntKind.wrap .i64 ((IntKind.wrap .i64 (8 * width)) - 1)))))))
 (some n_0)) none)
 (cond (Q5 .eql kind 10)
 (cond (decide (0 ≤ (IntKind.wrap .u64 (IntKind.wrap .i64 ((IntKind.wrap .i64 (8 * width)) - 1))))) (cond (Q5 .geq n_0 (J8 .u64 1 (IntKind.wrap .u64 (IntKind.wrap .i64 ((IntKind.wrap .i64 (8 * width)) - 1)))))
 (some (IntKind.wrap .u64 ((IntKind.wrap .u64 (n_0 - (J8 .u64 1 (IntKind.wrap .u64 (IntKind.wrap .i64 ((IntKind.wrap .i64 (8 * width)) - 1)))))) - (J8 .u64 1 (IntKind.wrap .u64 (IntKind.wrap .i64 ((IntKind.wrap .i64 (8 * width)) - 1)))))))
 (some n_0)) none)
 (some n_0))
theorem Q1m {N} {n_0} {kind} {width} {r} (h : Wt N n_0 kind width = some r) : Zq Tryz.prog G1 119 [.int .u64 n_0, .int .i64 kind, .int .i64 width] (.int .u64 r) := by
 refine Q4 Qxs ?_
 unfold Wt at h
 refine cP h G4 p1 fun v1 h => ?_
 apply iU h <;> intro h
 ·refine kU h fun h => ?_
  apply iU h <;> intro h
  ·cases h; exact (.p _)
  ·cases h; exact (.p _)
 ·apply iU h <;> intro h
  ·refine kU h fun h => ?_
   apply iU h <;> intro h
   ·cases h; exact (.p _)
   ·cases h; exact (.p _)
  ·cases h; exact (.p _)
def Vn (N : Nat) (code : Int) (s_1 : List UInt8) : Option (Q0 × Int × Int) :=
 (Xb N code).bind fun v1 =>
 cond (!v1.2)
 (some ((⟨0, 0, [], []⟩ : Q0), 0, 8))
 (cond v1.1.Items
 (some ((⟨0, 0, [], []⟩ : Q0), 0, 8))
 (cond (Q5 .lss (s_1.length : Int) v1.1.Width)
 (some ((⟨0, 0, [], []⟩ : Q0), 0, 3))
 (cond v1.1.Sized
 (cond (decide (0 ≤ v1.1.Width)) (cond (Nat.ble 0 v1.1.Width.toNat && Nat.ble v1.1.Width.toNat s_1.length) ((Zy N ((s_1.take v1.1.Width.toNat).drop 0)).bind fun v9 =>
 cond (Q5 .gtr v9 (IntKind.wrap .u64 (IntKind.wrap .i64 ((s_1.length : Int) - v1.1.Width))))
 (some ((⟨0, 0, [], []⟩ : Q0), 0, 3))
 (cond (decide (0 ≤ (IntKind.wrap .i64 (v1.1.Width + (IntKind.wrap .i64 v9))))) (cond (Nat.ble v1.1.Width.toNat ((IntKind.wrap .i64 (v1.1.Width + (IntKind.wrap .i64 v9))).toNat) && Nat.ble ((IntKind.wrap .i64 (v1.1.Width + (IntKind.wrap .i64 v9))).toNat) s_1.length) ((Zg N (⟨v1.1.Kind, 0, ((s_1.take ((IntKind.wrap .i64 (v1.1.Width + (IntKind.wrap .i64 v9))).toNat)).drop v1.1.Width.toNat), []⟩ : Q0)).bind fun v14 =>
 cond (Q5 .eql v14 2)
 (some ((⟨0, 0, [], []⟩ : Q0), 0, 5))
 (cond (Q5 .neq v14 0)
 (some ((⟨0, 0, [], []⟩ : Q0), 0, v14))
 (some ((⟨v1.1.Kind, 0, ((s_1.take ((IntKind.wrap .i64 (v1.1.Width + (IntKind.wrap .i64 v9))).toNat)).drop v1.1.Width.toNat), []⟩ : Q0), (IntKind.wrap .i64 (v1.1.Width + (IntKind.wrap .i64 v9))), 0)))) none) none)) none) none)
 (cond (Q5 .eql v1.1.Width 16)
 (cond (Nat.ble 0 16 && Nat.ble 16 s_1.length) ((Zg N (⟨v1.1.Kind, 0, ((s_1.take 16).drop 0), []⟩ : Q0)).bind fun v20 =>
 cond (Q5 .eql v20 2)
 (some ((⟨0, 0, [], []⟩ : Q0), 0, 5))
 (cond (Q5 .neq v20 0)
 (some ((⟨0, 0, [], []⟩ : Q0), 0, v20))
 (some ((⟨v1.1.Kind, 0, ((s_1.take 16).drop 0), []⟩ : Q0), v1.1.Width, 0)))) none)
 (cond (Q5 .eql code 65)
 ((Zg N (⟨v1.1.Kind, 1, [], []⟩ : Q0)).bind fun v25 =>
 cond (Q5 .eql v25 2)
 (some ((⟨0, 0, [], []⟩ : Q0), 0, 5))
 (cond (Q5 .neq v25 0)
 (some ((⟨0, 0, [], []⟩ : Q0), 0, v25))
 (some ((⟨v1.1.Kind, 1, [], []⟩ : Q0), v1.1.Width, 0))))
 (cond (Q5 .gtr v1.1.Width 0)
 (cond (decide (0 ≤ v1.1.Width)) (cond (Nat.ble 0 v1.1.Width.toNat && Nat.ble v1.1.Width.toNat s_1.length) ((Zy N ((s_1.take v1.1.Width.toNat).drop 0)).bind fun v32 =>
 (Wt N v32 v1.1.Kind v1.1.Width).bind fun v34 =>
 (Zg N (⟨v1.1.Kind, v34, [], []⟩ : Q0)).bind fun v36 =>
 cond (Q5 .eql v36 2)
 (some ((⟨0, 0, [], []⟩ : Q0), 0, 5))
 (cond (Q5 .neq v36 0)
 (some ((⟨0, 0, [], []⟩ : Q0), 0, v36))
 (some ((⟨v1.1.Kind, v34, [], []⟩ : Q0), v1.1.Width, 0)))) none) none)
 ((Zg N (⟨v1.1.Kind, 0, [], []⟩ : Q0)).bind fun v40 =>
 cond (Q5 .eql v40 2)
 (some ((⟨0, 0, [], []⟩ : Q0), 0, 5))
 (cond (Q5 .neq v40 0)
 (some ((⟨0, 0, [], []⟩ : Q0), 0, v40))
 (some ((⟨v1.1.Kind, 0, [], []⟩ : Q0), v1.1.Width, 0))))))))))
theorem Q31 {N} {code} {s_1} {r} (h : Vn N code s_1 = some r) : Zq Tryz.prog G1 97 [.int .i64 code, .str s_1] (.tuple [.agg (Q0.cells r.1), .int .i64 r.2.1, .int .i64 r.2.2]) := by
 refine Q4 k97 ?_
 unfold Vn at h
 refine cP h Vw p1 fun v1 h => ?_
 apply iU h <;> intro h
 ·obtain rfl := Qb h; exact (Frz.tuple' (.cons q4n p2))
 ·apply iU h <;> intro h
  ·obtain rfl := Qb h; exact (Frz.tuple' (.cons q4n p2))
  ·apply iU h <;> intro h
   ·obtain rfl := Qb h; exact (Frz.tuple' (.cons q4n p2))
   ·apply iU h <;> intro h
    ·obtain ⟨hk7, h⟩ := Q85 h
     refine Q46 hk7 ?_
     refine kU h fun h => ?_
     refine cP h Wk p1 fun v9 h => ?_
     apply iU h <;> intro h
     ·obtain rfl := Qb h; exact (Frz.tuple' (.cons q4n p2))
     ·refine Q46 hk7 ?_
      refine kU h fun h => ?_
      refine kU h fun h => ?_
      refine cP h Xu (.cons q4n .nil) fun v14 h => ?_
      apply iU h <;> intro h
      ·refine ifT (by unfold Q5; decide) ?_
       obtain rfl := Qb h; exact (Frz.tuple' (.cons q4n p2))
      ·apply iU h <;> intro h
       ·obtain rfl := Qb h; exact (Frz.tuple' (.cons q4n p2))
       ·obtain rfl := Qb h; exact (Frz.tuple' (.cons q4n p2))
    ·apply iU h <;> intro h
     ·refine kU h fun h => ?_
      refine cP h Xu (.cons q4n .nil) fun v20 h => ?_
      apply iU h <;> intro h
      ·refine ifT (by unfold Q5; decide) ?_
       obtain rfl := Qb h; exact (Frz.tuple' (.cons q4n p2))
      ·apply iU h <;> intro h
       ·obtain rfl := Qb h; exact (Frz.tuple' (.cons q4n p2))
       ·obtain rfl := Qb h; exact (Frz.tuple' (.cons q4n p2))
     ·apply iU h <;> intro h
      ·refine cP h Xu (.cons q4n .nil) fun v25 h => ?_
       apply iU h <;> intro h
       ·refine ifT (by unfold Q5; decide) ?_
        obtain rfl := Qb h; exact (Frz.tuple' (.cons q4n p2))
       ·apply iU h <;> intro h
        ·obtain rfl := Qb h; exact (Frz.tuple' (.cons q4n p2))
        ·obtain rfl := Qb h; exact (Frz.tuple' (.cons q4n p2))
      ·apply iU h <;> intro h
       ·refine Qo ?_
        refine kU h fun h => ?_
        refine kU h fun h => ?_
        refine cD h Wk p1 fun v32 h => ?_
        refine cD h Q1m p3 fun v34 h => ?_
        refine cP h Xu (.cons q4n .nil) fun v36 h => ?_
        apply iU h <;> intro h
        ·refine ifT (by unfold Q5; decide) ?_
         obtain rfl := Qb h; exact (Frz.tuple' (.cons q4n p2))
        ·apply iU h <;> intro h
         ·obtain rfl := Qb h; exact (Frz.tuple' (.cons q4n p2))
         ·obtain rfl := Qb h; exact (Frz.tuple' (.cons q4n p2))
       ·refine cP h Xu (.cons q4n .nil) fun v40 h => ?_
        apply iU h <;> intro h
        ·refine ifT (by unfold Q5; decide) ?_
         obtain rfl := Qb h; exact (Frz.tuple' (.cons q4n p2))
        ·apply iU h <;> intro h
         ·obtain rfl := Qb h; exact (Frz.tuple' (.cons q4n p2))
         ·obtain rfl := Qb h; exact (Frz.tuple' (.cons q4n p2))
def W6 (_N : Nat) (v : Q0) : Option (Bool) :=
 cond (Q5 .eql v.Kind 11)
 (cond (Q5 .eql (Q36 .u64 v.N' 2139095040) 2139095040)
 (cond (Q5 .neq (Q36 .u64 v.N' 8388607) 0)
 (some true)
 (cond (Q5 .eql v.Kind 12)
 (cond (Q5 .eql (Q36 .u64 v.N' 9218868437227405312) 9218868437227405312)
 (some (Q5 .neq (Q36 .u64 v.N' 4503599627370495) 0))
 (some false))
 (some false)))
 (cond (Q5 .eql v.Kind 12)
 (cond (Q5 .eql (Q36 .u64 v.N' 9218868437227405312) 9218868437227405312)
 (some (Q5 .neq (Q36 .u64 v.N' 4503599627370495) 0))
 (some false))
 (some false)))
 (cond (Q5 .eql v.Kind 12)
 (cond (Q5 .eql (Q36 .u64 v.N' 9218868437227405312) 9218868437227405312)
 (some (Q5 .neq (Q36 .u64 v.N' 4503599627370495) 0))
 (some false))
 (some false))
theorem G3 {N} {v} {r} (h : W6 N v = some r) : Zq Tryz.prog G1 141 [.agg (Q0.cells v)] (.bool r) := by
 refine Q4 Qwp ?_
 unfold W6 at h
 apply iU h <;> intro h
 ·apply iU h <;> intro h
  ·apply iU h <;> intro h
   ·cases h; exact (.p _)
   ·apply iU h <;> intro h
    ·apply iU h <;> intro h
     ·cases h; exact (.p _)
     ·cases h; exact (.p _)
    ·cases h; exact (.p _)
  ·apply iU h <;> intro h
   ·apply iU h <;> intro h
    ·cases h; exact (.p _)
    ·cases h; exact (.p _)
   ·cases h; exact (.p _)
 ·apply iU h <;> intro h
  ·apply iU h <;> intro h
   ·cases h; exact (.p _)
   ·cases h; exact (.p _)
  ·cases h; exact (.p _)
def Ye (R_polyglotref17_alike : Q0 → Q0 → Option (Bool)) (N : Nat) (a : Q0) (b : Q0) : Nat → Int → Option (Bool)
 | 0, _ => none
 | n + 1, i28 =>
  cond (Q5 .lss i28 ((Q0.rows a.Items).length : Int))
  ((idx a.Items i28).bind fun y30 =>
  (idx b.Items i28).bind fun y32 =>
  (R_polyglotref17_alike y30 y32).bind fun v34 =>
  cond (!v34)
  (some false)
  (Ye R_polyglotref17_alike N a b n (IntKind.wrap .i64 (i28 + 1))))
  (some true)
def Yi (R_polyglotref17_alike : Q0 → Q0 → Option (Bool)) (N : Nat) (a : Q0) (b : Q0) : Nat → Int → Option (Bool)
 | 0, _ => none
 | n + 1, i56 =>
  cond (Q5 .lss i56 ((Q0.rows a.Items).length : Int))
  ((idx a.Items i56).bind fun y58 =>
  (idx b.Items i56).bind fun y60 =>
  (R_polyglotref17_alike y58 y60).bind fun v62 =>
  cond (!v62)
  (some false)
  (Yi R_polyglotref17_alike N a b n (IntKind.wrap .i64 (i56 + 1))))
  (some true)
def Vx (R_polyglotref17_alike : Q0 → Q0 → Option (Bool)) (N : Nat) (a : Q0) (b : Q0) : Option (Bool) :=
 cond (Q5 .neq a.Kind b.Kind)
 (some false)
 (cond (Q5 .neq a.N' b.N')
 ((W6 N a).bind fun v3 =>
 cond v3
 ((W6 N b).bind fun v6 =>
 cond (!v6)
 (some false)
 (cond (Q22 .neq a.Text b.Text)
 (some false)
 (cond (Q5 .neq ((Q0.rows a.Items).length : Int) ((Q0.rows b.Items).length : Int))
 (some false)
 (Ye R_polyglotref17_alike N a b N 0))))
 (some false))
 (cond (Q22 .neq a.Text b.Text)
 (some false)
 (cond (Q5 .neq ((Q0.rows a.Items).length : Int) ((Q0.rows b.Items).length : Int))
 (some false)
 (Yi R_polyglotref17_alike N a b N 0))))
theorem Q1l {R_polyglotref17_alike : Q0 → Q0 → Option (Bool)} (hR_polyglotref17_alike : ∀ {a} {b} {r}, R_polyglotref17_alike a b = some r → Zq Tryz.prog G1 121 [.agg (Q0.cells a), .agg (Q0.cells b)] (.bool r)) {N} {a} {b} {r} (h : Vx R_polyglotref17_alike N a b = some r) : Zq Tryz.prog G1 121 [.agg (Q0.cells a), .agg (Q0.cells b)] (.bool r) := by
 refine Q4 Qwr ?_
 unfold Vx at h
 apply iU h <;> intro h
 ·cases h; exact (.p _)
 ·apply iU h <;> intro h
  ·refine cP h G3 (.cons q4 .nil) fun v3 h => ?_
   apply iU h <;> intro h
   ·refine cP h G3 (.cons q4 .nil) fun v6 h => ?_
    apply iU h <;> intro h
    ·cases h; exact (.p _)
    ·apply iU h <;> intro h
     ·cases h; exact (.p _)
     ·apply iU h <;> intro h
      ·cases h; exact (.p _)
      ·refine lpC (τ := Int) (fun i28 => (.any :: .any :: .ptr 0 0 :: .ptr 1 0 :: .any :: iI i28 :: a16 (a16 (a16 (a8 ([])))) : List AV)) (fun _ => (.cells (iI a.Kind :: iW a.N' :: iS a.Text :: .p (.slice 4 (Q0.rows a.Items)) :: []) :: .cells (iI b.Kind :: iW b.N' :: iS b.Text :: .p (.slice 4 (Q0.rows b.Items)) :: []) :: [] : List AObj)) (fun n0 i28 => Ye R_polyglotref17_alike N a b n0 i28) (0) h (fun i => i) ⟨(rW <| rE rfl <| rE rfl <| rA <| rE rfl <| rX <| rX <| rX <| rX <| rX <| rX <| rX <| rN), (hE rfl <| hE rfl <| hN), rfl, rfl, (roE rfl <| roE rfl <| roN)⟩ fun n0 i28 h => ?_
       simp only [Ye] at h
       apply iU h <;> intro h
       ·refine Qo ?_
        refine Q0.xR h fun y30 h => ?_
        refine Q0.xR h fun y32 h => ?_
        refine cD h hR_polyglotref17_alike (.cons q4 (.cons q4 .nil)) fun v34 h => ?_
        apply iU h <;> intro h
        ·cases h; exact (.p _)
        ·show Exists _
         exact ⟨(n0, (IntKind.wrap .i64 (i28 + 1))), h, Nat.lt_succ_self _, (fun i => i), ⟨(rW <| rE rfl <| rE rfl <| rA <| rE rfl <| rX <| rX <| rX <| rX <| rX <| rX <| rX <| rN), (hE rfl <| hE rfl <| hN), rfl, rfl, (roE rfl <| roE rfl <| roN)⟩⟩
       ·cases h; exact (.p _)
   ·cases h; exact (.p _)
  ·apply iU h <;> intro h
   ·cases h; exact (.p _)
   ·apply iU h <;> intro h
    ·cases h; exact (.p _)
    ·refine lpC (τ := Int) (fun i56 => (.any :: .any :: .ptr 0 0 :: .ptr 1 0 :: .any :: iI i56 :: a16 (a16 (a16 (a8 ([])))) : List AV)) (fun _ => (.cells (iI a.Kind :: iW a.N' :: iS a.Text :: .p (.slice 4 (Q0.rows a.Items)) :: []) :: .cells (iI b.Kind :: iW b.N' :: iS b.Text :: .p (.slice 4 (Q0.rows b.Items)) :: []) :: [] : List AObj)) (fun n1 i56 => Yi R_polyglotref17_alike N a b n1 i56) (0) h (fun i => i) ⟨(rW <| rE rfl <| rE rfl <| rA <| rE rfl <| rX <| rX <| rX <| rX <| rX <| rX <| rX <| rN), (hE rfl <| hE rfl <| hN), rfl, rfl, (roE rfl <| roE rfl <| roN)⟩ fun n1 i56 h => ?_
     simp only [Yi] at h
     apply iU h <;> intro h
     ·refine Qo ?_
      refine Q0.xR h fun y58 h => ?_
      refine Q0.xR h fun y60 h => ?_
      refine cD h hR_polyglotref17_alike (.cons q4 (.cons q4 .nil)) fun v62 h => ?_
      apply iU h <;> intro h
      ·cases h; exact (.p _)
      ·show Exists _
       exact ⟨(n1, (IntKind.wrap .i64 (i56 + 1))), h, Nat.lt_succ_self _, (fun i => i), ⟨(rW <| rE rfl <| rE rfl <| rA <| rE rfl <| rX <| rX <| rX <| rX <| rX <| rX <| rX <| rN), (hE rfl <| hE rfl <| hN), rfl, rfl, (roE rfl <| roE rfl <| roN)⟩⟩
     ·cases h; exact (.p _)
def Yw : Nat → Q0 → Q0 → Option (Bool)
 | 0 => fun _ _ => none
 | N + 1 => Vx (Yw N) N
theorem Q1x {N} {a} {b} {r} (h : Yw N a b = some r) : Zq Tryz.prog G1 121 [.agg (Q0.cells a), .agg (Q0.cells b)] (.bool r) := by
 induction N generalizing a b r with
 | zero => simp [Yw] at h
 | succ N ih => exact Q1l (fun h => ih h) h
def Yh (N : Nat) (k0 : Int → Option (Bool)) (items : List Q0) (i30 : Int) : Nat → Int → Option (Bool)
 | 0, _ => none
 | n + 1, k49 =>
  cond (Q5 .lss k49 i30)
  ((idx items i30).bind fun y51 =>
  (idx items k49).bind fun y53 =>
  (Yw N y51 y53).bind fun v55 =>
  cond v55
  (some true)
  (Yh N k0 items i30 n (IntKind.wrap .i64 (k49 + 2))))
  (k0 (IntKind.wrap .i64 (i30 + 2)))
def Zm (N : Nat) (items : List Q0) : Nat → Int → Option (Bool)
 | 0, _ => none
 | n + 1, i30 =>
  cond (Q5 .lss i30 ((Q0.rows items).length : Int))
  (Yh N (Zm N items n) items i30 N 0)
  (some false)
def Yv (N : Nat) (items : List Q0) : Option (Bool) :=
 Zm N items N 0
theorem Jk {N} {items} {r} (h : Yv N items = some r) : Zq Tryz.prog G1 100 [.slice 4 (Q0.rows items)] (.bool r) := by
 refine Q4 Qwz ?_
 unfold Yv at h
 refine lpC (τ := Int) (fun i30 => (.p (.slice 4 (Q0.rows items)) :: .any :: .any :: iI i30 :: a16 (a4 (.any :: [])) : List AV)) (fun _ => ([] : List AObj)) (fun n0 i30 => Zm N items n0 i30) (0) h (fun i => i) ⟨(rE rfl <| rW <| rE rfl <| rX <| rX <| rV <| rA <| rN), (hN), rfl, rfl, (roN)⟩ fun n0 i30 h => ?_
 simp only [Zm] at h
 apply iU h <;> intro h
 ·refine lpC (τ := Int) (fun k49 => (.p (.slice 4 (Q0.rows items)) :: .any :: .any :: iI i30 :: iI k49 :: a16 (a4 ([])) : List AV)) (fun _ => ([] : List AObj)) (fun n1 k49 => Yh N (Zm N items n0) items i30 n1 k49) (0) h (fun i => i) ⟨(rE rfl <| rW <| rE rfl <| rE rfl <| rX <| rX <| rV <| rN), (hN), rfl, rfl, (roN)⟩ fun n1 k49 h => ?_
  simp only [Yh] at h
  apply iU h <;> intro h
  ·refine Qo ?_
   refine Q0.xR h fun y51 h => ?_
   refine Q0.xR h fun y53 h => ?_
   refine cD h Q1x (.cons q4 (.cons q4 .nil)) fun v55 h => ?_
   apply iU h <;> intro h
   ·cases h; exact (.p _)
   ·show Exists _
    exact ⟨(n1, (IntKind.wrap .i64 (k49 + 2))), h, Nat.lt_succ_self _, (fun i => i), ⟨(rE rfl <| rW <| rE rfl <| rE rfl <| rX <| rX <| rV <| rN), (hN), rfl, rfl, (roN)⟩⟩
  ·show Exists _
   exact ⟨(n0, (IntKind.wrap .i64 (i30 + 2))), h, Nat.lt_succ_self _, (fun i => i), ⟨(rE rfl <| rW <| rE rfl <| rX <| rX <| rV <| rA <| rN), (hN), rfl, rfl, (roN)⟩⟩
 ·cases h; exact (.p _)
end
end
end Go.Av
