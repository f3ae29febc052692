/- The law. Part of a proof of a given statement: for every input the law returns true and the arguments read as before; no condition beyond the given row. -/
import Derived.Test.YtkemhhfbpniioaaGreatDoorLiftF0
namespace Go.Av
noncomputable section
open Go.Proofs
set_option maxRecDepth 100000
set_option maxHeartbeats 4000000
attribute [local irreducible] Vb X2 Q4m Q5l Q8 Q14 Qad
section
def X9 (R_amqcanon_formOf : Q0 → Option (Q1)) (N : Nat) (v : Q0) : Nat → Int → (List Q1) → Option (Q1)
 | 0, _, _ => none
 | n + 1, s14, l15 =>
  cond (Q8 .lss s14 ((Q0.rows v.Items).length : Int))
  ((idx v.Items s14).bind fun y17 =>
  (R_amqcanon_formOf y17).bind fun v19 =>
  cond (Nat.ble ((l15.length + 1 + 4096) * 96) 17592186044416) (X9 R_amqcanon_formOf N v n (IntKind.wrap .i64 (s14 + 1)) (l15 ++ [v19])) none)
  (cond (Q8 .eql v.Kind 24)
  ((W7 N (IntKind.wrap .i64 v.N') l15).bind fun v23 =>
  cond ((v.Kind : Int) == 22)
  ((Z8 N (⟨v, l15, v23, 0⟩ : Q1)).bind fun v26 =>
  some (⟨v, l15, v23, v26⟩ : Q1))
  (cond ((v.Kind : Int) == 23)
  ((Z8 N (⟨v, l15, v23, 0⟩ : Q1)).bind fun v29 =>
  some (⟨v, l15, v23, v29⟩ : Q1))
  (cond ((v.Kind : Int) == 24)
  ((Xq N (⟨v, l15, v23, 0⟩ : Q1)).bind fun v32 =>
  some (⟨v, l15, v23, v32⟩ : Q1))
  (some (⟨v, l15, v23, 0⟩ : Q1)))))
  (cond ((v.Kind : Int) == 22)
  ((Z8 N (⟨v, l15, 0, 0⟩ : Q1)).bind fun v35 =>
  some (⟨v, l15, 0, v35⟩ : Q1))
  (cond ((v.Kind : Int) == 23)
  ((Z8 N (⟨v, l15, 0, 0⟩ : Q1)).bind fun v38 =>
  some (⟨v, l15, 0, v38⟩ : Q1))
  (cond ((v.Kind : Int) == 24)
  ((Xq N (⟨v, l15, 0, 0⟩ : Q1)).bind fun v41 =>
  some (⟨v, l15, 0, v41⟩ : Q1))
  (some (⟨v, l15, 0, 0⟩ : Q1))))))
def Ja (R_amqcanon_formOf : Q0 → Option (Q1)) (N : Nat) (v : Q0) : Option (Q1) :=
 X9 R_amqcanon_formOf N v N 0 []
theorem Q2x {R_amqcanon_formOf : Q0 → Option (Q1)} (hR_amqcanon_formOf : ∀ {v} {r}, R_amqcanon_formOf v = some r → Zj Tryz.prog G1 63 [.agg (Q0.cells v)] (.agg (Q1.cells r))) {N} {v} {r} (h : Ja R_amqcanon_formOf N v = some r) : Zj Tryz.prog G1 63 [.agg (Q0.cells v)] (.agg (Q1.cells r)) := by
 refine Q4 k63 ?_
 unfold Ja at h
 refine lpC (τ := Int × (List Q1)) (fun ⟨s14, _⟩ => (.any :: .ptr 0 0 :: .ptr 1 0 :: .ptr 2 0 :: a8 (.p (.slice 4 (Q0.rows v.Items)) :: iI ((Q0.rows v.Items).length : Int) :: iI s14 :: a16 (a16 (a4 ([])))) : List AV)) (fun ⟨_, l15⟩ => (.cells (iI v.Kind :: iW v.N' :: iS v.Text :: .p (.slice 4 (Q0.rows v.Items)) :: []) :: .cells (iI 0 :: iW 0 :: iS [] :: .p .nilSlice :: .p .nilSlice :: iI 0 :: iI 0 :: []) :: .cells (iI v.Kind :: iW v.N' :: iS v.Text :: .p (.slice 4 (Q0.rows v.Items)) :: .slice 7 3 0 l15.length :: iI 0 :: iI 0 :: []) :: .cells (W8 Q1.cells l15) :: [] : List AObj)) (fun n0 ⟨s14, l15⟩ => X9 R_amqcanon_formOf N v n0 s14 l15) (0, []) h (fun i => i) ⟨(rA <| rE rfl <| rE rfl <| rE rfl <| rX <| rE rfl <| rE rfl <| rE rfl <| rX <| rX <| rX <| rX <| rV <| rN), (hE rfl <| hE rfl <| hC rfl (rE rfl <| rE rfl <| rE rfl <| rE rfl <| rS <| rE rfl <| rE rfl <| rN) <| hV lb <| hN), rfl, rfl, (roE rfl <| roE rfl <| roE rfl <| roE (Ql _ _ _) <| roN)⟩ fun n0 ⟨s14, l15⟩ h => ?_
 simp only [X9] at h
 apply iU h <;> intro h
 ·refine Q0.xR h fun y17 h => ?_
  refine Z1 ?_
  refine cD h hR_amqcanon_formOf (.cons q4 .nil) fun v19 h => ?_
  obtain ⟨hk21, h⟩ := Ql3 h
  refine Qb9 (Q39 (c := Q1.cells) (e := 7) (fun _ => rfl) (by simp) hk21) ?_
  refine Q8f (c := Q1.cells) [v19] rfl ?_
  show Exists _
  exact ⟨(n0, (IntKind.wrap .i64 (s14 + 1)), (l15 ++ [v19])), h, Nat.lt_succ_self _, (rho [0, 1, 2, 6]), ⟨(rA <| rE rfl <| rE rfl <| rE rfl <| rX <| rE rfl <| rE rfl <| rE rfl <| rX <| rX <| rX <| rX <| rV <| rN), (hE rfl <| hE rfl <| hC rfl (rE rfl <| rE rfl <| rE rfl <| rE rfl <| rL (by simp) rfl <| rE rfl <| rE rfl <| rN) <| hO rfl <| hN), rfl, rfl, (roE rfl <| roE rfl <| roE rfl <| roE (Ql _ _ _) <| roN)⟩⟩
 ·apply iU h <;> intro h
  ·refine cK h G8 (.cons (.p _) (.cons (Q1.frz_own (l := l15) rfl trivial (by simp)) .nil)) fun v23 h => ?_
   apply iU h <;> intro h
   ·refine cK h Xz (.cons (Frz.agg' (.cons (.p _) (.cons (.p _) (.cons (.p _) (.cons (.p _) (.cons (Q1.frz_own (l := l15) rfl trivial (by simp)) p2)))))) .nil) fun v26 h => ?_
    obtain rfl := Qj h; exact (Frz.agg' (.cons (.p _) (.cons (.p _) (.cons (.p _) (.cons (.p _) (.cons (Q1.frz_own (l := l15) rfl trivial (by simp)) p2))))))
   ·apply iU h <;> intro h
    ·refine cK h Xz (.cons (Frz.agg' (.cons (.p _) (.cons (.p _) (.cons (.p _) (.cons (.p _) (.cons (Q1.frz_own (l := l15) rfl trivial (by simp)) p2)))))) .nil) fun v29 h => ?_
     obtain rfl := Qj h; exact (Frz.agg' (.cons (.p _) (.cons (.p _) (.cons (.p _) (.cons (.p _) (.cons (Q1.frz_own (l := l15) rfl trivial (by simp)) p2))))))
    ·apply iU h <;> intro h
     ·refine cK h Ui (.cons (Frz.agg' (.cons (.p _) (.cons (.p _) (.cons (.p _) (.cons (.p _) (.cons (Q1.frz_own (l := l15) rfl trivial (by simp)) p2)))))) .nil) fun v32 h => ?_
      obtain rfl := Qj h; exact (Frz.agg' (.cons (.p _) (.cons (.p _) (.cons (.p _) (.cons (.p _) (.cons (Q1.frz_own (l := l15) rfl trivial (by simp)) p2))))))
     ·obtain rfl := Qj h; exact (Frz.agg' (.cons (.p _) (.cons (.p _) (.cons (.p _) (.cons (.p _) (.cons (Q1.frz_own (l := l15) rfl trivial (by simp)) p2))))))
  ·apply iU h <;> intro h
   ·refine cK h Xz (.cons (Frz.agg' (.cons (.p _) (.cons (.p _) (.cons (.p _) (.cons (.p _) (.cons (Q1.frz_own (l := l15) rfl trivial (by simp)) p2)))))) .nil) fun v35 h => ?_
    obtain rfl := Qj h; exact (Frz.agg' (.cons (.p _) (.cons (.p _) (.cons (.p _) (.cons (.p _) (.cons (Q1.frz_own (l := l15) rfl trivial (by simp)) p2))))))
   ·apply iU h <;> intro h
    ·refine cK h Xz (.cons (Frz.agg' (.cons (.p _) (.cons (.p _) (.cons (.p _) (.cons (.p _) (.cons (Q1.frz_own (l := l15) rfl trivial (by simp)) p2)))))) .nil) fun v38 h => ?_
     obtain rfl := Qj h; exact (Frz.agg' (.cons (.p _) (.cons (.p _) (.cons (.p _) (.cons (.p _) (.cons (Q1.frz_own (l := l15) rfl trivial (by simp)) p2))))))
    ·apply iU h <;> intro h
     ·refine cK h Ui (.cons (Frz.agg' (.cons (.p _) (.cons (.p _) (.cons (.p _) (.cons (.p _) (.cons (Q1.frz_own (l := l15) rfl trivial (by simp)) p2)))))) .nil) fun v41 h => ?_
      obtain rfl := Qj h; exact (Frz.agg' (.cons (.p _) (.cons (.p _) (.cons (.p _) (.cons (.p _) (.cons (Q1.frz_own (l := l15) rfl trivial (by simp)) p2))))))
     ·obtain rfl := Qj h; exact (Frz.agg' (.cons (.p _) (.cons (.p _) (.cons (.p _) (.cons (.p _) (.cons (Q1.frz_own (l := l15) rfl trivial (by simp)) p2))))))
def Wh : Nat → Q0 → Option (Q1)
 | 0 => fun _ => none
 | N + 1 => Ja (Wh N) N
theorem Q2z {N} {v} {r} (h : Wh N v = some r) : Zj Tryz.prog G1 63 [.agg (Q0.cells v)] (.agg (Q1.cells r)) := by
 induction N generalizing v r with
 | zero => simp [Wh] at h
 | succ N ih => exact Q2x (fun h => ih h) h
def W5 (N : Nat) (v : Q0) (most : Int) : Option ((List UInt8) × Int) :=
 (Vh N v most).bind fun v1 =>
 cond (Q8 .neq v1 0)
 (some ([], v1))
 ((Zn N v).bind fun v4 =>
 (Wh N v4).bind fun v6 =>
 (Qx N (⟨(⟨[]⟩ : Qm)⟩ : Q2) v6).bind fun v8 =>
 (Xx N v8.2.buffer).bind fun v10 =>
 some (v10.1, 0))
theorem Uc {N} {v} {most} {r} (h : W5 N v most = some r) : Zj Tryz.prog G1 17 [.agg (Q0.cells v), .int .i64 most] (.tuple [.str r.1, .int .i64 r.2]) := by
 refine Q4 k17 ?_
 unfold W5 at h
 refine cP h Q3k (.cons q4 p1) fun v1 h => ?_
 apply iU h <;> intro h
 ·obtain rfl := Qj h; exact u2
 ·refine cP h V1 (.cons q4 .nil) fun v4 h => ?_
  refine cP h Q2z p1 fun v6 h => ?_
  refine cG h Gq fun v8 h => ?_
  refine ⟨rho [1, 3], (.cells (iI v.Kind :: iW v.N' :: iS v.Text :: .p (.slice 4 (Q0.rows v.Items)) :: []) :: .cells (.slice 1 2 0 v8.2.buffer.b.length :: []) :: .cells (W8 (cI .u8) v8.2.buffer.b) :: []), .tuple [], ⟨(rE rfl <| rE rfl <| rN), (hC rfl (rS <| rN) <| hV lb <| hN), rfl, rfl, (roE rfl <| roE (Ql _ _ _) <| roN), rfl, (fK rfl rfl <| fR 0 rfl rfl rfl rfl <| fO 2 rfl rfl rfl <| fN), rfl⟩, ?_⟩
  refine cG h Gn fun v10 h => ?_
  refine ⟨rho [1, 2], (.cells (iI v.Kind :: iW v.N' :: iS v.Text :: .p (.slice 4 (Q0.rows v.Items)) :: []) :: .cells (.slice 1 3 0 v10.2.b.length :: []) :: .dead :: .cells (W8 (cI .u8) v10.2.b) :: []), iS v10.1, ⟨(rE rfl <| rN), (hE rfl <| hO rfl <| hN), rfl, rfl, (roE rfl <| roE (Ql _ _ _) <| roN), rfl, (fK rfl rfl <| fR 0 rfl rfl rfl rfl <| fD <| fO 2 rfl rfl rfl <| fN), rfl⟩, ?_⟩
  obtain rfl := Qj h; exact u2
def J4 (_N : Nat) (kind : Int) (n_1 : Int) : Option (Q0) :=
 some (⟨kind, n_1, [], []⟩ : Q0)
theorem Gx {N} {kind} {n_1} {r} (h : J4 N kind n_1 = some r) : Zj Tryz.prog G1 39 [.int .i64 kind, .int .u64 n_1] (.agg (Q0.cells r)) := by
 refine Q4 k39 ?_
 unfold J4 at h
 obtain rfl := Qj h; exact q4n
def Wy (N : Nat) : Option (Bool) :=
 (J4 N 2 1).bind fun v1 =>
 (J4 N 1 0).bind fun v3 =>
 (W5 N (⟨22, 0, [], [v1, v3]⟩ : Q0) 2).bind fun v5 =>
 cond (Q8 .eql v5.2 0)
 (some (Q14 .eql v5.1 [192, 3, 2, 65, 64]))
 (some false)
theorem Q0e {N} {r} (h : Wy N = some r) : Zj Tryz.prog G1 12 [] (.bool r) := by
 refine Q4 k12 ?_
 unfold Wy at h
 refine cP h Gx p2 fun v1 h => ?_
 refine cP h Gx p2 fun v3 h => ?_
 refine Q5x k30 ?_
 refine cK h Uc (.cons (Frz.agg' (.cons (.p _) (.cons (.p _) (.cons (.p _) (.cons (Q0.frz_own (l := [v1, v3]) rfl trivial (by simp)) .nil))))) p1) fun v5 h => ?_
 apply iU h <;> intro h
 ·cases h; exact (.p _)
 ·cases h; exact (.p _)
def Y2 (N : Nat) (s_0 : List UInt8) : Nat → Int → Option (Bool)
 | 0, _ => none
 | n + 1, i10 =>
  cond (Q8 .lss i10 (s_0.length : Int))
  ((idx s_0 i10).bind fun b12 =>
  cond (Q8 .geq (b12.toNat : Int) 128)
  (some false)
  (Y2 N s_0 n (IntKind.wrap .i64 (i10 + 1))))
  (some true)
def Qf (N : Nat) (s_0 : List UInt8) : Option (Bool) :=
 Y2 N s_0 N 0
theorem Qi {N} {s_0} {r} (h : Qf N s_0 = some r) : Zj Tryz.prog G1 56 [.str s_0] (.bool r) := by
 refine Q4 k56 ?_
 unfold Qf at h
 refine lpC (τ := Int) (fun i10 => (iS s_0 :: .any :: .any :: iI i10 :: a8 (a2 ([])) : List AV)) (fun _ => ([] : List AObj)) (fun n0 i10 => Y2 N s_0 n0 i10) (0) h (fun i => i) ⟨(rE rfl <| rW <| rE rfl <| rX <| rW <| rN), (hN), rfl, rfl, (roN)⟩ fun n0 i10 h => ?_
 simp only [Y2] at h
 apply iU h <;> intro h
 ·refine xB h fun b12 h => ?_
  apply iU h <;> intro h
  ·cases h; exact (.p _)
  ·show Exists _
   exact ⟨(n0, (IntKind.wrap .i64 (i10 + 1))), h, Nat.lt_succ_self _, (fun i => i), ⟨(rE rfl <| rW <| rE rfl <| rX <| rW <| rN), (hN), rfl, rfl, (roN)⟩⟩
 ·cases h; exact (.p _)
def Qd (_N : Nat) (kind : Int) : Option (Int) :=
 cond (Q8 .eql kind 2)
 (some 1)
 (cond (Q8 .eql kind 3)
 (some 8)
 (cond (Q8 .eql kind 4)
 (some 16)
 (cond (Q8 .eql kind 5)
 (some 32)
 (cond (Q8 .eql kind 11)
 (some 32)
 (cond (Q8 .eql kind 13)
 (some 32)
 (cond (Q8 .eql kind 16)
 (some 32)
 (cond (Q8 .eql kind 6)
 (some 64)
 (cond (Q8 .eql kind 12)
 (some 64)
 (cond (Q8 .eql kind 14)
 (some 64)
 (cond (Q8 .eql kind 17)
 (some 64)
 (cond (Q8 .eql kind 10)
 (some 64)
 (cond (Q8 .eql kind 7)
 (some (-8))
 (cond (Q8 .eql kind 8)
 (some (-16))
 (cond (Q8 .eql kind 9)
 (some (-32))
 (some 0)))))))))))))))
theorem J2 {N} {kind} {r} (h : Qd N kind = some r) : Zj Tryz.prog G1 83 [.int .i64 kind] (.int .i64 r) := by
 refine Q4 k83 ?_
 unfold Qd at h
 apply iU h <;> intro h
 ·cases h; exact (.p _)
 ·apply iU h <;> intro h
  ·cases h; exact (.p _)
  ·apply iU h <;> intro h
   ·cases h; exact (.p _)
   ·refine ifO h (fun hc4 h => ?_) (fun hc4 h => ?_)
    ·refine ifT hc4 ?_
     cases h; exact (.p _)
    ·refine ifO h (fun hc5 h => ?_) (fun hc5 h => ?_)
     ·refine ifT hc5 ?_
      cases h; exact (.p _)
     ·refine ifO h (fun hc6 h => ?_) (fun hc6 h => ?_)
      ·refine ifT hc6 ?_
       cases h; exact (.p _)
      ·apply iU h <;> intro h
       ·cases h; exact (.p _)
       ·refine ifO h (fun hc8 h => ?_) (fun hc8 h => ?_)
        ·refine ifT hc8 ?_
         cases h; exact (.p _)
        ·refine ifO h (fun hc9 h => ?_) (fun hc9 h => ?_)
         ·refine ifT hc9 ?_
          cases h; exact (.p _)
         ·refine ifO h (fun hc10 h => ?_) (fun hc10 h => ?_)
          ·refine ifT hc10 ?_
           cases h; exact (.p _)
          ·refine ifO h (fun hc11 h => ?_) (fun hc11 h => ?_)
           ·refine ifT hc11 ?_
            cases h; exact (.p _)
           ·apply iU h <;> intro h
            ·cases h; exact (.p _)
            ·apply iU h <;> intro h
             ·cases h; exact (.p _)
             ·apply iU h <;> intro h
              ·cases h; exact (.p _)
              ·apply iU h <;> intro h
               ·cases h; exact (.p _)
               ·cases h; exact (.p _)
def Wc (_N : Nat) (n_0 : Int) : Option (Bool) :=
 cond (Q8 .leq n_0 1114111)
 (cond (Q8 .lss n_0 55296)
 (some true)
 (some (Q8 .gtr n_0 57343)))
 (some false)
theorem Q1m {N} {n_0} {r} (h : Wc N n_0 = some r) : Zj Tryz.prog G1 84 [.int .u64 n_0] (.bool r) := by
 refine Q4 k84 ?_
 unfold Wc at h
 apply iU h <;> intro h
 ·apply iU h <;> intro h
  ·cases h; exact (.p _)
  ·cases h; exact (.p _)
 ·cases h; exact (.p _)
def Xg (_N : Nat) (n_0 : Int) (bits : Int) : Option (Bool) :=
 cond (decide (0 ≤ (IntKind.wrap .u64 (bits - 1)))) (cond (Q8 .lss n_0 (J6 .u64 1 (IntKind.wrap .u64 (bits - 1))))
 (some true)
 (some (Q8 .geq n_0 (IntKind.wrap .u64 (0 - (J6 .u64 1 (IntKind.wrap .u64 (bits - 1)))))))) none
theorem Q04 {N} {n_0} {bits} {r} (h : Xg N n_0 bits = some r) : Zj Tryz.prog G1 85 [.int .u64 n_0, .int .u64 bits] (.bool r) := by
 refine Q4 k85 ?_
 unfold Xg at h
 refine kU h fun h => ?_
 apply iU h <;> intro h
 ·cases h; exact (.p _)
 ·cases h; exact (.p _)
def Yo (N : Nat) (v : Q0) : Option (Bool) :=
 (Qd N v.Kind).bind fun v1 =>
 cond (Q8 .eql v.Kind 16)
 ((Wc N v.N').bind fun v4 =>
 some v4)
 (cond (Q8 .eql v1 0)
 (some (Q8 .eql v.N' 0))
 (cond (Q8 .lss v1 0)
 ((Xg N v.N' (IntKind.wrap .u64 (IntKind.wrap .i64 (0 - v1)))).bind fun v8 =>
 some v8)
 (cond (Q8 .eql v1 64)
 (some true)
 (cond (decide (0 ≤ (IntKind.wrap .u64 v1))) (some (Q8 .lss v.N' (J6 .u64 1 (IntKind.wrap .u64 v1)))) none))))
theorem U3 {N} {v} {r} (h : Yo N v = some r) : Zj Tryz.prog G1 53 [.agg (Q0.cells v)] (.bool r) := by
 refine Q4 k53 ?_
 unfold Yo at h
 refine cP h J2 p1 fun v1 h => ?_
 apply iU h <;> intro h
 ·refine cP h Q1m p1 fun v4 h => ?_
  cases h; exact (.p _)
 ·apply iU h <;> intro h
  ·cases h; exact (.p _)
  ·apply iU h <;> intro h
   ·refine cP h Q04 p2 fun v8 h => ?_
    cases h; exact (.p _)
   ·apply iU h <;> intro h
    ·cases h; exact (.p _)
    ·refine kU h fun h => ?_
     cases h; exact (.p _)
def Yv (_N : Nat) (kind : Int) : Option (Bool) :=
 cond (Q8 .eql kind 15)
 (some true)
 (cond (Q8 .geq kind 18)
 (some (Q8 .leq kind 21))
 (some false))
theorem Uj {N} {kind} {r} (h : Yv N kind = some r) : Zj Tryz.prog G1 54 [.int .i64 kind] (.bool r) := by
 refine Q4 k54 ?_
 unfold Yv at h
 apply iU h <;> intro h
 ·cases h; exact (.p _)
 ·apply iU h <;> intro h
  ·cases h; exact (.p _)
  ·cases h; exact (.p _)
def Q5 (_N : Nat) (s_0 : List UInt8) (i : Int) (low : Int) (high : Int) : Option (Bool) :=
 cond (Q8 .lss i (s_0.length : Int))
 ((idx s_0 i).bind fun b2 =>
 cond (Q8 .geq (b2.toNat : Int) low)
 ((idx s_0 i).bind fun b5 =>
 some (Q8 .leq (b5.toNat : Int) high))
 (some false))
 (some false)
theorem Qb {N} {s_0} {i} {low} {high} {r} (h : Q5 N s_0 i low high = some r) : Zj Tryz.prog G1 108 [.str s_0, .int .i64 i, .int .u8 low, .int .u8 high] (.bool r) := by
 refine Q4 Qt8 ?_
 unfold Q5 at h
 apply iU h <;> intro h
 ·refine xB h fun b2 h => ?_
  apply iU h <;> intro h
  ·refine xB h fun b5 h => ?_
   cases h; exact (.p _)
  ·cases h; exact (.p _)
 ·cases h; exact (.p _)
def Qy (_N : Nat) (s139 : Bool) : Option (Int) :=
 cond s139
 (some 4)
 (some 0)
def Zb (N : Nat) (k4 : Bool → Option (Int)) (s_0 : List UInt8) (i : Int) (b1 : UInt8) (s170 : Bool) : Option (Int) :=
 cond s170
 (k4 s170)
 (cond (Q8 .eql (b1.toNat : Int) 244)
 ((Q5 N s_0 (IntKind.wrap .i64 (i + 1)) 128 143).bind fun v183 =>
 cond v183
 ((Q5 N s_0 (IntKind.wrap .i64 (i + 2)) 128 191).bind fun v186 =>
 cond v186
 ((Q5 N s_0 (IntKind.wrap .i64 (i + 3)) 128 191).bind fun v189 =>
 k4 v189)
 (k4 false))
 (k4 false))
 (k4 false))
def Zl (N : Nat) (k4 : Bool → Option (Int)) (s_0 : List UInt8) (i : Int) (b1 : UInt8) (s149 : Bool) : Option (Int) :=
 cond s149
 (k4 s149)
 (cond (Q8 .geq (b1.toNat : Int) 241)
 (cond (Q8 .leq (b1.toNat : Int) 243)
 ((Q5 N s_0 (IntKind.wrap .i64 (i + 1)) 128 191).bind fun v173 =>
 cond v173
 ((Q5 N s_0 (IntKind.wrap .i64 (i + 2)) 128 191).bind fun v176 =>
 cond v176
 ((Q5 N s_0 (IntKind.wrap .i64 (i + 3)) 128 191).bind fun v179 =>
 Zb N k4 s_0 i b1 v179)
 (Zb N k4 s_0 i b1 false))
 (Zb N k4 s_0 i b1 false))
 (Zb N k4 s_0 i b1 false))
 (Zb N k4 s_0 i b1 false))
def Z9 (N : Nat) (s_0 : List UInt8) (i : Int) (b1 : UInt8) (s50 : Bool) : Option (Int) :=
 cond s50
 (some 3)
 (cond (Q8 .eql (b1.toNat : Int) 240)
 ((Q5 N s_0 (IntKind.wrap .i64 (i + 1)) 144 191).bind fun v151 =>
 cond v151
 ((Q5 N s_0 (IntKind.wrap .i64 (i + 2)) 128 191).bind fun v154 =>
 cond v154
 ((Q5 N s_0 (IntKind.wrap .i64 (i + 3)) 128 191).bind fun v157 =>
 Zl N (Qy N) s_0 i b1 v157)
 (Zl N (Qy N) s_0 i b1 false))
 (Zl N (Qy N) s_0 i b1 false))
 (Zl N (Qy N) s_0 i b1 false))
def Yc (N : Nat) (k1 : Bool → Option (Int)) (s_0 : List UInt8) (i : Int) (b1 : UInt8) (s71 : Bool) : Option (Int) :=
 cond s71
 (k1 s71)
 (cond (Q8 .geq (b1.toNat : Int) 225)
 (cond (Q8 .leq (b1.toNat : Int) 239)
 (cond (Q8 .neq (b1.toNat : Int) 237)
 ((Q5 N s_0 (IntKind.wrap .i64 (i + 1)) 128 191).bind fun v82 =>
 cond v82
 ((Q5 N s_0 (IntKind.wrap .i64 (i + 2)) 128 191).bind fun v85 =>
 k1 v85)
 (k1 false))
 (k1 false))
 (k1 false))
 (k1 false))
def Ya (N : Nat) (k1 : Bool → Option (Int)) (s_0 : List UInt8) (i : Int) (b1 : UInt8) (s57 : Bool) : Option (Int) :=
 cond s57
 (k1 s57)
 (cond (Q8 .eql (b1.toNat : Int) 237)
 ((Q5 N s_0 (IntKind.wrap .i64 (i + 1)) 128 159).bind fun v73 =>
 cond v73
 ((Q5 N s_0 (IntKind.wrap .i64 (i + 2)) 128 191).bind fun v76 =>
 Yc N k1 s_0 i b1 v76)
 (Yc N k1 s_0 i b1 false))
 (Yc N k1 s_0 i b1 false))
def Y9 (N : Nat) (s_0 : List UInt8) (i : Int) (b1 : UInt8) (s8 : Bool) : Option (Int) :=
 cond s8
 (some 2)
 (cond (Q8 .eql (b1.toNat : Int) 224)
 ((Q5 N s_0 (IntKind.wrap .i64 (i + 1)) 160 191).bind fun v59 =>
 cond v59
 ((Q5 N s_0 (IntKind.wrap .i64 (i + 2)) 128 191).bind fun v62 =>
 Ya N (Z9 N s_0 i b1) s_0 i b1 v62)
 (Ya N (Z9 N s_0 i b1) s_0 i b1 false))
 (Ya N (Z9 N s_0 i b1) s_0 i b1 false))
def Wa (N : Nat) (s_0 : List UInt8) (i : Int) : Option (Int) :=
 (idx s_0 i).bind fun b1 =>
 cond (Q8 .lss (b1.toNat : Int) 128)
 (some 1)
 (cond (Q8 .geq (b1.toNat : Int) 194)
 (cond (Q8 .leq (b1.toNat : Int) 223)
 ((Q5 N s_0 (IntKind.wrap .i64 (i + 1)) 128 191).bind fun v11 =>
 Y9 N s_0 i b1 v11)
 (Y9 N s_0 i b1 false))
 (Y9 N s_0 i b1 false))
theorem Q1k {N} {s_0} {i} {r} (h : Wa N s_0 i = some r) : Zj Tryz.prog G1 86 [.str s_0, .int .i64 i] (.int .i64 r) := by
 refine Q4 k86 ?_
 unfold Wa at h
 refine xB h fun b1 h => ?_
 apply iU h <;> intro h
 ·cases h; exact (.p _)
 ·refine U7 (σ := Bool) (fun s8 => (iS s_0 :: iI i :: a2 (.any :: .p (.int .u8 (b1.toNat : Int)) :: a4 (a2 (.p (.bool s8) :: a16 (a16 (a16 (a16 (a16 (a16 (a16 (a16 ([]))))))))))) : List AV)) (fun _ => ([] : List AObj)) (fun s8 => Y9 N s_0 i b1 s8 = some r) (fun _ _ => lb) ?_ ?_
  ·apply iU h <;> intro h
   ·apply iU h <;> intro h
    ·refine cP h Qb p4 fun v11 h => ?_
     show Exists _
     exact ⟨(v11), h, (fun i => i), ⟨(rE rfl <| rE rfl <| rW <| rA <| rE rfl <| rV <| rW <| rE rfl <| rX <| rX <| rX <| rX <| rX <| rX <| rX <| rX <| rX <| rX <| rX <| rX <| rX <| rX <| rX <| rX <| rN), (hN), rfl, rfl, (roN)⟩⟩
    ·show Exists _
     exact ⟨(false), h, (fun i => i), ⟨(rE rfl <| rE rfl <| rW <| rA <| rE rfl <| rV <| rW <| rE rfl <| rX <| rX <| rX <| rX <| rX <| rX <| rX <| rX <| rX <| rX <| rX <| rX <| rX <| rX <| rX <| rX <| rN), (hN), rfl, rfl, (roN)⟩⟩
   ·show Exists _
    exact ⟨(false), h, (fun i => i), ⟨(rE rfl <| rE rfl <| rW <| rA <| rE rfl <| rV <| rW <| rE rfl <| rX <| rX <| rX <| rX <| rX <| rX <| rX <| rX <| rX <| rX <| rX <| rX <| rX <| rX <| rX <| rX <| rN), (hN), rfl, rfl, (roN)⟩⟩
  rintro s8 h
  dsimp only [Y9] at h
  apply iU h <;> intro h
  ·cases h; exact (.p _)
  ·refine U7 (σ := Bool) (fun s50 => (iS s_0 :: iI i :: a2 (.any :: .p (.int .u8 (b1.toNat : Int)) :: a16 (a2 (.any :: .p (.bool s50) :: a16 (a16 (a16 (a16 (a16 (a16 (a16 (a2 (.any :: []))))))))))) : List AV)) (fun _ => ([] : List AObj)) (fun s50 => Z9 N s_0 i b1 s50 = some r) (fun _ _ => lb) ?_ ?_
   ·refine U7 (σ := Bool) (fun s57 => (iS s_0 :: iI i :: a2 (.any :: .p (.int .u8 (b1.toNat : Int)) :: a16 (a2 (.any :: .p (.bool s57) :: a16 (a16 (a16 (a16 (a16 (a16 (a16 (a2 (.any :: []))))))))))) : List AV)) (fun _ => ([] : List AObj)) (fun s57 => Ya N (Z9 N s_0 i b1) s_0 i b1 s57 = some r) (fun _ _ => lb) ?_ ?_
    ·apply iU h <;> intro h
     ·refine cP h Qb p4 fun v59 h => ?_
      apply iU h <;> intro h
      ·refine cP h Qb p4 fun v62 h => ?_
       show Exists _
       exact ⟨(v62), h, (fun i => i), ⟨(rE rfl <| rE rfl <| rW <| rA <| rE rfl <| rX <| rX <| rW <| rA <| rE rfl <| rX <| rX <| rX <| rX <| rX <| rX <| rX <| rX <| rX <| rX <| rX <| rX <| rX <| rX <| rW <| rA <| rN), (hN), rfl, rfl, (roN)⟩⟩
      ·show Exists _
       exact ⟨(false), h, (fun i => i), ⟨(rE rfl <| rE rfl <| rW <| rA <| rE rfl <| rX <| rX <| rW <| rA <| rE rfl <| rX <| rX <| rX <| rX <| rX <| rX <| rX <| rX <| rX <| rX <| rX <| rX <| rX <| rX <| rW <| rA <| rN), (hN), rfl, rfl, (roN)⟩⟩
     ·show Exists _
      exact ⟨(false), h, (fun i => i), ⟨(rE rfl <| rE rfl <| rW <| rA <| rE rfl <| rX <| rX <| rW <| rA <| rE rfl <| rX <| rX <| rX <| rX <| rX <| rX <| rX <| rX <| rX <| rX <| rX <| rX <| rX <| rX <| rW <| rA <| rN), (hN), rfl, rfl, (roN)⟩⟩
    rintro s57 h
    dsimp only [Ya] at h
    apply iU h <;> intro h
    ·show Exists _
     exact ⟨(s57), h, (fun i => i), ⟨(rE rfl <| rE rfl <| rW <| rA <| rE rfl <| rX <| rX <| rW <| rA <| rE rfl <| rX <| rX <| rX <| rX <| rX <| rX <| rX <| rX <| rX <| rX <| rX <| rX <| rX <| rX <| rW <| rA <| rN), (hN), rfl, rfl, (roN)⟩⟩
    ·refine U7 (σ := Bool) (fun s71 => (iS s_0 :: iI i :: a2 (.any :: .p (.int .u8 (b1.toNat : Int)) :: a16 (a2 (.any :: .p (.bool s71) :: a16 (a16 (a16 (a16 (a16 (a16 (a16 (a2 (.any :: []))))))))))) : List AV)) (fun _ => ([] : List AObj)) (fun s71 => Yc N (Z9 N s_0 i b1) s_0 i b1 s71 = some r) (fun _ _ => lb) ?_ ?_
     ·apply iU h <;> intro h
      ·refine cP h Qb p4 fun v73 h => ?_
       apply iU h <;> intro h
       ·refine cP h Qb p4 fun v76 h => ?_
        show Exists _
        exact ⟨(v76), h, (fun i => i), ⟨(rE rfl <| rE rfl <| rW <| rA <| rE rfl <| rX <| rX <| rW <| rA <| rE rfl <| rX <| rX <| rX <| rX <| rX <| rX <| rX <| rX <| rX <| rX <| rX <| rX <| rX <| rX <| rW <| rA <| rN), (hN), rfl, rfl, (roN)⟩⟩
       ·show Exists _
        exact ⟨(false), h, (fun i => i), ⟨(rE rfl <| rE rfl <| rW <| rA <| rE rfl <| rX <| rX <| rW <| rA <| rE rfl <| rX <| rX <| rX <| rX <| rX <| rX <| rX <| rX <| rX <| rX <| rX <| rX <| rX <| rX <| rW <| rA <| rN), (hN), rfl, rfl, (roN)⟩⟩
      ·show Exists _
       exact ⟨(false), h, (fun i => i), ⟨(rE rfl <| rE rfl <| rW <| rA <| rE rfl <| rX <| rX <| rW <| rA <| rE rfl <| rX <| rX <| rX <| rX <| rX <| rX <| rX <| rX <| rX <| rX <| rX <| rX <| rX <| rX <| rW <| rA <| rN), (hN), rfl, rfl, (roN)⟩⟩
     rintro s71 h
     dsimp only [Yc] at h
     apply iU h <;> intro h
     ·show Exists _
      exact ⟨(s71), h, (fun i => i), ⟨(rE rfl <| rE rfl <| rW <| rA <| rE rfl <| rX <| rX <| rW <| rA <| rE rfl <| rX <| rX <| rX <| rX <| rX <| rX <| rX <| rX <| rX <| rX <| rX <| rX <| rX <| rX <| rW <| rA <| rN), (hN), rfl, rfl, (roN)⟩⟩
     ·apply iU h <;> intro h
      ·apply iU h <;> intro h
       ·apply iU h <;> intro h
        ·refine cP h Qb p4 fun v82 h => ?_
         apply iU h <;> intro h
         ·refine cP h Qb p4 fun v85 h => ?_
          show Exists _
          exact ⟨(v85), h, (fun i => i), ⟨(rE rfl <| rE rfl <| rW <| rA <| rE rfl <| rX <| rX <| rW <| rA <| rE rfl <| rX <| rX <| rX <| rX <| rX <| rX <| rX <| rX <| rX <| rX <| rX <| rX <| rX <| rX <| rW <| rA <| rN), (hN), rfl, rfl, (roN)⟩⟩
         ·show Exists _
          exact ⟨(false), h, (fun i => i), ⟨(rE rfl <| rE rfl <| rW <| rA <| rE rfl <| rX <| rX <| rW <| rA <| rE rfl <| rX <| rX <| rX <| rX <| rX <| rX <| rX <| rX <| rX <| rX <| rX <| rX <| rX <| rX <| rW <| rA <| rN), (hN), rfl, rfl, (roN)⟩⟩
        ·show Exists _
         exact ⟨(false), h, (fun i => i), ⟨(rE rfl <| rE rfl <| rW <| rA <| rE rfl <| rX <| rX <| rW <| rA <| rE rfl <| rX <| rX <| rX <| rX <| rX <| rX <| rX <| rX <| rX <| rX <| rX <| rX <| rX <| rX <| rW <| rA <| rN), (hN), rfl, rfl, (roN)⟩⟩
       ·show Exists _
        exact ⟨(false), h, (fun i => i), ⟨(rE rfl <| rE rfl <| rW <| rA <| rE rfl <| rX <| rX <| rW <| rA <| rE rfl <| rX <| rX <| rX <| rX <| rX <| rX <| rX <| rX <| rX <| rX <| rX <| rX <| rX <| rX <| rW <| rA <| rN), (hN), rfl, rfl, (roN)⟩⟩
      ·show Exists _
       exact ⟨(false), h, (fun i => i), ⟨(rE rfl <| rE rfl <| rW <| rA <| rE rfl <| rX <| rX <| rW <| rA <| rE rfl <| rX <| rX <| rX <| rX <| rX <| rX <| rX <| rX <| rX <| rX <| rX <| rX <| rX <| rX <| rW <| rA <| rN), (hN), rfl, rfl, (roN)⟩⟩
   rintro s50 h
   dsimp only [Z9] at h
   apply iU h <;> intro h
   ·cases h; exact (.p _)
   ·refine U7 (σ := Bool) (fun s139 => (a16 (a16 (a16 (a16 (a8 (a4 (.p (.bool s139) :: a16 (a16 (a16 (a16 ([])))))))))) : List AV)) (fun _ => ([] : List AObj)) (fun s139 => Qy N s139 = some r) (fun _ _ => lb) ?_ ?_
    ·refine U7 (σ := Bool) (fun s149 => (iS s_0 :: iI i :: a2 (.any :: .p (.int .u8 (b1.toNat : Int)) :: a16 (a16 (a16 (a16 (a4 (a2 (.p (.bool s149) :: a16 (a16 (a16 (a16 ([]))))))))))) : List AV)) (fun _ => ([] : List AObj)) (fun s149 => Zl N (Qy N) s_0 i b1 s149 = some r) (fun _ _ => lb) ?_ ?_
     ·apply iU h <;> intro h
      ·refine cP h Qb p4 fun v151 h => ?_
       apply iU h <;> intro h
       ·refine cP h Qb p4 fun v154 h => ?_
        apply iU h <;> intro h
        ·refine cP h Qb p4 fun v157 h => ?_
         show Exists _
         exact ⟨(v157), h, (fun i => i), ⟨(rE rfl <| rE rfl <| rW <| rA <| rE rfl <| rX <| rX <| rX <| rX <| rX <| rX <| rX <| rX <| rV <| rW <| rE rfl <| rX <| rX <| rX <| rX <| rX <| rX <| rX <| rX <| rN), (hN), rfl, rfl, (roN)⟩⟩
        ·show Exists _
         exact ⟨(false), h, (fun i => i), ⟨(rE rfl <| rE rfl <| rW <| rA <| rE rfl <| rX <| rX <| rX <| rX <| rX <| rX <| rX <| rX <| rV <| rW <| rE rfl <| rX <| rX <| rX <| rX <| rX <| rX <| rX <| rX <| rN), (hN), rfl, rfl, (roN)⟩⟩
       ·show Exists _
        exact ⟨(false), h, (fun i => i), ⟨(rE rfl <| rE rfl <| rW <| rA <| rE rfl <| rX <| rX <| rX <| rX <| rX <| rX <| rX <| rX <| rV <| rW <| rE rfl <| rX <| rX <| rX <| rX <| rX <| rX <| rX <| rX <| rN), (hN), rfl, rfl, (roN)⟩⟩
      ·show Exists _
       exact ⟨(false), h, (fun i => i), ⟨(rE rfl <| rE rfl <| rW <| rA <| rE rfl <| rX <| rX <| rX <| rX <| rX <| rX <| rX <| rX <| rV <| rW <| rE rfl <| rX <| rX <| rX <| rX <| rX <| rX <| rX <| rX <| rN), (hN), rfl, rfl, (roN)⟩⟩
     rintro s149 h
     dsimp only [Zl] at h
     apply iU h <;> intro h
     ·show Exists _
      exact ⟨(s149), h, (fun i => i), ⟨(rX <| rX <| rX <| rX <| rX <| rX <| rX <| rX <| rX <| rV <| rE rfl <| rX <| rX <| rX <| rX <| rX <| rX <| rX <| rX <| rN), (hN), rfl, rfl, (roN)⟩⟩
     ·refine U7 (σ := Bool) (fun s170 => (iS s_0 :: iI i :: a2 (.any :: .p (.int .u8 (b1.toNat : Int)) :: a16 (a16 (a16 (a16 (a4 (a2 (.p (.bool s170) :: a16 (a16 (a16 (a16 ([]))))))))))) : List AV)) (fun _ => ([] : List AObj)) (fun s170 => Zb N (Qy N) s_0 i b1 s170 = some r) (fun _ _ => lb) ?_ ?_
      ·apply iU h <;> intro h
       ·apply iU h <;> intro h
        ·refine cP h Qb p4 fun v173 h => ?_
         apply iU h <;> intro h
         ·refine cP h Qb p4 fun v176 h => ?_
          apply iU h <;> intro h
          ·refine cP h Qb p4 fun v179 h => ?_
           show Exists _
           exact ⟨(v179), h, (fun i => i), ⟨(rE rfl <| rE rfl <| rW <| rA <| rE rfl <| rX <| rX <| rX <| rX <| rX <| rX <| rX <| rX <| rV <| rW <| rE rfl <| rX <| rX <| rX <| rX <| rX <| rX <| rX <| rX <| rN), (hN), rfl, rfl, (roN)⟩⟩
          ·show Exists _
           exact ⟨(false), h, (fun i => i), ⟨(rE rfl <| rE rfl <| rW <| rA <| rE rfl <| rX <| rX <| rX <| rX <| rX <| rX <| rX <| rX <| rV <| rW <| rE rfl <| rX <| rX <| rX <| rX <| rX <| rX <| rX <| rX <| rN), (hN), rfl, rfl, (roN)⟩⟩
         ·show Exists _
          exact ⟨(false), h, (fun i => i), ⟨(rE rfl <| rE rfl <| rW <| rA <| rE rfl <| rX <| rX <| rX <| rX <| rX <| rX <| rX <| rX <| rV <| rW <| rE rfl <| rX <| rX <| rX <| rX <| rX <| rX <| rX <| rX <| rN), (hN), rfl, rfl, (roN)⟩⟩
        ·show Exists _
         exact ⟨(false), h, (fun i => i), ⟨(rE rfl <| rE rfl <| rW <| rA <| rE rfl <| rX <| rX <| rX <| rX <| rX <| rX <| rX <| rX <| rV <| rW <| rE rfl <| rX <| rX <| rX <| rX <| rX <| rX <| rX <| rX <| rN), (hN), rfl, rfl, (roN)⟩⟩
       ·show Exists _
        exact ⟨(false), h, (fun i => i), ⟨(rE rfl <| rE rfl <| rW <| rA <| rE rfl <| rX <| rX <| rX <| rX <| rX <| rX <| rX <| rX <| rV <| rW <| rE rfl <| rX <| rX <| rX <| rX <| rX <| rX <| rX <| rX <| rN), (hN), rfl, rfl, (roN)⟩⟩
      rintro s170 h
      dsimp only [Zb] at h
      apply iU h <;> intro h
      ·show Exists _
       exact ⟨(s170), h, (fun i => i), ⟨(rX <| rX <| rX <| rX <| rX <| rX <| rX <| rX <| rX <| rV <| rE rfl <| rX <| rX <| rX <| rX <| rX <| rX <| rX <| rX <| rN), (hN), rfl, rfl, (roN)⟩⟩
      ·apply iU h <;> intro h
       ·refine cP h Qb p4 fun v183 h => ?_
        apply iU h <;> intro h
        ·refine cP h Qb p4 fun v186 h => ?_
         apply iU h <;> intro h
         ·refine cP h Qb p4 fun v189 h => ?_
          show Exists _
          exact ⟨(v189), h, (fun i => i), ⟨(rX <| rX <| rX <| rX <| rX <| rX <| rX <| rX <| rX <| rV <| rE rfl <| rX <| rX <| rX <| rX <| rX <| rX <| rX <| rX <| rN), (hN), rfl, rfl, (roN)⟩⟩
         ·show Exists _
          exact ⟨(false), h, (fun i => i), ⟨(rX <| rX <| rX <| rX <| rX <| rX <| rX <| rX <| rX <| rV <| rE rfl <| rX <| rX <| rX <| rX <| rX <| rX <| rX <| rX <| rN), (hN), rfl, rfl, (roN)⟩⟩
        ·show Exists _
         exact ⟨(false), h, (fun i => i), ⟨(rX <| rX <| rX <| rX <| rX <| rX <| rX <| rX <| rX <| rV <| rE rfl <| rX <| rX <| rX <| rX <| rX <| rX <| rX <| rX <| rN), (hN), rfl, rfl, (roN)⟩⟩
       ·show Exists _
        exact ⟨(false), h, (fun i => i), ⟨(rX <| rX <| rX <| rX <| rX <| rX <| rX <| rX <| rX <| rV <| rE rfl <| rX <| rX <| rX <| rX <| rX <| rX <| rX <| rX <| rN), (hN), rfl, rfl, (roN)⟩⟩
    rintro s139 h
    dsimp only [Qy] at h
    apply iU h <;> intro h
    ·cases h; exact (.p _)
    ·cases h; exact (.p _)
def Yd (N : Nat) (s_0 : List UInt8) : Nat → Int → Option (Bool)
 | 0, _ => none
 | n + 1, i10 =>
  cond (Q8 .lss i10 (s_0.length : Int))
  ((Wa N s_0 i10).bind fun v12 =>
  cond (Q8 .eql v12 0)
  (some false)
  (Yd N s_0 n (IntKind.wrap .i64 (i10 + v12))))
  (some true)
def Z6 (N : Nat) (s_0 : List UInt8) : Option (Bool) :=
 Yd N s_0 N 0
theorem Yb {N} {s_0} {r} (h : Z6 N s_0 = some r) : Zj Tryz.prog G1 55 [.str s_0] (.bool r) := by
 refine Q4 k55 ?_
 unfold Z6 at h
 refine lpC (τ := Int) (fun i10 => (iS s_0 :: .any :: .any :: iI i10 :: a8 (a4 (.any :: [])) : List AV)) (fun _ => ([] : List AObj)) (fun n0 i10 => Yd N s_0 n0 i10) (0) h (fun i => i) ⟨(rE rfl <| rW <| rE rfl <| rX <| rV <| rA <| rN), (hN), rfl, rfl, (roN)⟩ fun n0 i10 h => ?_
 simp only [Yd] at h
 apply iU h <;> intro h
 ·refine cP h Q1k p2 fun v12 h => ?_
  apply iU h <;> intro h
  ·cases h; exact (.p _)
  ·show Exists _
   exact ⟨(n0, (IntKind.wrap .i64 (i10 + v12))), h, Nat.lt_succ_self _, (fun i => i), ⟨(rE rfl <| rW <| rE rfl <| rX <| rV <| rA <| rN), (hN), rfl, rfl, (roN)⟩⟩
 ·cases h; exact (.p _)
def Qr (N : Nat) (v : Q0) : Option (Int) :=
 cond (Q8 .eql v.Kind 15)
 (cond (Q8 .lss v.Kind 1)
 (some 8)
 (cond (Q8 .gtr v.Kind 21)
 (some 8)
 ((Yo N v).bind fun v4 =>
 cond (!v4)
 (some 2)
 (cond (Q8 .gtr ((Q0.rows v.Items).length : Int) 0)
 (some 2)
 ((Yv N v.Kind).bind fun v8 =>
 cond (!v8)
 (cond (Q14 .neq v.Text [])
 (some 2)
 (cond (Q8 .neq (v.Text.length : Int) 16)
 (some 2)
 (cond (Q8 .gtr (v.Text.length : Int) 1048576)
 (some 4)
 (cond (Q8 .eql v.Kind 20)
 ((Z6 N v.Text).bind fun v15 =>
 cond (!v15)
 (some 6)
 (cond (Q8 .eql v.Kind 21)
 ((Qf N v.Text).bind fun v19 =>
 cond (!v19)
 (some 6)
 (some 0))
 (some 0)))
 (cond (Q8 .eql v.Kind 21)
 ((Qf N v.Text).bind fun v23 =>
 cond (!v23)
 (some 6)
 (some 0))
 (some 0))))))
 (cond (Q8 .neq (v.Text.length : Int) 16)
 (some 2)
 (cond (Q8 .gtr (v.Text.length : Int) 1048576)
 (some 4)
 (cond (Q8 .eql v.Kind 20)
 ((Z6 N v.Text).bind fun v29 =>
 cond (!v29)
 (some 6)
 (cond (Q8 .eql v.Kind 21)
 ((Qf N v.Text).bind fun v33 =>
 cond (!v33)
 (some 6)
 (some 0))
 (some 0)))
 (cond (Q8 .eql v.Kind 21)
 ((Qf N v.Text).bind fun v37 =>
 cond (!v37)
 (some 6)
 (some 0))
 (some 0))))))))))
 (cond (Q8 .lss v.Kind 1)
 (some 8)
 (cond (Q8 .gtr v.Kind 21)
 (some 8)
 ((Yo N v).bind fun v42 =>
 cond (!v42)
 (some 2)
 (cond (Q8 .gtr ((Q0.rows v.Items).length : Int) 0)
 (some 2)
 ((Yv N v.Kind).bind fun v46 =>
 cond (!v46)
 (cond (Q14 .neq v.Text [])
 (some 2)
 (cond (Q8 .eql v.Kind 18)
 (cond (Q8 .neq (v.Text.length : Int) 16)
 (some 2)
 (cond (Q8 .gtr (v.Text.length : Int) 1048576)
 (some 4)
 (cond (Q8 .eql v.Kind 20)
 ((Z6 N v.Text).bind fun v54 =>
 cond (!v54)
 (some 6)
 (cond (Q8 .eql v.Kind 21)
 ((Qf N v.Text).bind fun v58 =>
 cond (!v58)
 (some 6)
 (some 0))
 (some 0)))
 (cond (Q8 .eql v.Kind 21)
 ((Qf N v.Text).bind fun v62 =>
 cond (!v62)
 (some 6)
 (some 0))
 (some 0)))))
 (cond (Q8 .gtr (v.Text.length : Int) 1048576)
 (some 4)
 (cond (Q8 .eql v.Kind 20)
 ((Z6 N v.Text).bind fun v67 =>
 cond (!v67)
 (some 6)
 (cond (Q8 .eql v.Kind 21)
 ((Qf N v.Text).bind fun v71 =>
 cond (!v71)
 (some 6)
 (some 0))
 (some 0)))
 (cond (Q8 .eql v.Kind 21)
 ((Qf N v.Text).bind fun v75 =>
 cond (!v75)
 (some 6)
 (some 0))
 (some 0))))))
 (cond (Q8 .eql v.Kind 18)
 (cond (Q8 .neq (v.Text.length : Int) 16)
 (some 2)
 (cond (Q8 .gtr (v.Text.length : Int) 1048576)
 (some 4)
 (cond (Q8 .eql v.Kind 20)
 ((Z6 N v.Text).bind fun v82 =>
 cond (!v82)
 (some 6)
 (cond (Q8 .eql v.Kind 21)
 ((Qf N v.Text).bind fun v86 =>
 cond (!v86)
 (some 6)
 (some 0))
 (some 0)))
 (cond (Q8 .eql v.Kind 21)
 ((Qf N v.Text).bind fun v90 =>
 cond (!v90)
 (some 6)
 (some 0))
 (some 0)))))
 (cond (Q8 .gtr (v.Text.length : Int) 1048576)
 (some 4)
 (cond (Q8 .eql v.Kind 20)
 ((Z6 N v.Text).bind fun v95 =>
 cond (!v95)
 (some 6)
 (cond (Q8 .eql v.Kind 21)
 ((Qf N v.Text).bind fun v99 =>
 cond (!v99)
 (some 6)
 (some 0))
 (some 0)))
 (cond (Q8 .eql v.Kind 21)
 ((Qf N v.Text).bind fun v103 =>
 cond (!v103)
 (some 6)
 (some 0))
 (some 0))))))))))
theorem Y0 {N} {v} {r} (h : Qr N v = some r) : Zj Tryz.prog G1 13 [.agg (Q0.cells v)] (.int .i64 r) := by
 refine Q4 k13 ?_
 unfold Qr at h
 apply iU h <;> intro h
 ·apply iU h <;> intro h
  ·cases h; exact (.p _)
  ·apply iU h <;> intro h
   ·cases h; exact (.p _)
   ·refine cP h U3 (.cons q4 .nil) fun v4 h => ?_
    apply iU h <;> intro h
    ·cases h; exact (.p _)
    ·apply iU h <;> intro h
     ·cases h; exact (.p _)
     ·refine cP h Uj p1 fun v8 h => ?_
      apply iU h <;> intro h
      ·apply iU h <;> intro h
       ·cases h; exact (.p _)
       ·apply iU h <;> intro h
        ·cases h; exact (.p _)
        ·apply iU h <;> intro h
         ·cases h; exact (.p _)
         ·apply iU h <;> intro h
          ·refine cP h Yb p1 fun v15 h => ?_
           apply iU h <;> intro h
           ·cases h; exact (.p _)
           ·apply iU h <;> intro h
            ·refine cP h Qi p1 fun v19 h => ?_
             apply iU h <;> intro h
             ·cases h; exact (.p _)
             ·cases h; exact (.p _)
            ·cases h; exact (.p _)
          ·apply iU h <;> intro h
           ·refine cP h Qi p1 fun v23 h => ?_
            apply iU h <;> intro h
            ·cases h; exact (.p _)
            ·cases h; exact (.p _)
           ·cases h; exact (.p _)
      ·apply iU h <;> intro h
       ·cases h; exact (.p _)
       ·apply iU h <;> intro h
        ·cases h; exact (.p _)
        ·apply iU h <;> intro h
         ·refine cP h Yb p1 fun v29 h => ?_
          apply iU h <;> intro h
          ·cases h; exact (.p _)
          ·apply iU h <;> intro h
           ·refine cP h Qi p1 fun v33 h => ?_
            apply iU h <;> intro h
            ·cases h; exact (.p _)
            ·cases h; exact (.p _)
           ·cases h; exact (.p _)
         ·apply iU h <;> intro h
          ·refine cP h Qi p1 fun v37 h => ?_
           apply iU h <;> intro h
           ·cases h; exact (.p _)
           ·cases h; exact (.p _)
          ·cases h; exact (.p _)
 ·apply iU h <;> intro h
  ·cases h; exact (.p _)
  ·apply iU h <;> intro h
   ·cases h; exact (.p _)
   ·refine cP h U3 (.cons q4 .nil) fun v42 h => ?_
    apply iU h <;> intro h
    ·cases h; exact (.p _)
    ·apply iU h <;> intro h
     ·cases h; exact (.p _)
     ·refine cP h Uj p1 fun v46 h => ?_
      apply iU h <;> intro h
      ·apply iU h <;> intro h
       ·cases h; exact (.p _)
       ·apply iU h <;> intro h
        ·apply iU h <;> intro h
         ·cases h; exact (.p _)
         ·apply iU h <;> intro h
          ·cases h; exact (.p _)
          ·apply iU h <;> intro h
           ·refine cP h Yb p1 fun v54 h => ?_
            apply iU h <;> intro h
            ·cases h; exact (.p _)
            ·apply iU h <;> intro h
             ·refine cP h Qi p1 fun v58 h => ?_
              apply iU h <;> intro h
              ·cases h; exact (.p _)
              ·cases h; exact (.p _)
             ·cases h; exact (.p _)
           ·apply iU h <;> intro h
            ·refine cP h Qi p1 fun v62 h => ?_
             apply iU h <;> intro h
             ·cases h; exact (.p _)
             ·cases h; exact (.p _)
            ·cases h; exact (.p _)
        ·apply iU h <;> intro h
         ·cases h; exact (.p _)
         ·apply iU h <;> intro h
          ·refine cP h Yb p1 fun v67 h => ?_
           apply iU h <;> intro h
           ·cases h; exact (.p _)
           ·apply iU h <;> intro h
            ·refine cP h Qi p1 fun v71 h => ?_
             apply iU h <;> intro h
             ·cases h; exact (.p _)
             ·cases h; exact (.p _)
            ·cases h; exact (.p _)
          ·apply iU h <;> intro h
           ·refine cP h Qi p1 fun v75 h => ?_
            apply iU h <;> intro h
            ·cases h; exact (.p _)
            ·cases h; exact (.p _)
           ·cases h; exact (.p _)
      ·apply iU h <;> intro h
       ·apply iU h <;> intro h
        ·cases h; exact (.p _)
        ·apply iU h <;> intro h
         ·cases h; exact (.p _)
         ·apply iU h <;> intro h
          ·refine cP h Yb p1 fun v82 h => ?_
           apply iU h <;> intro h
           ·cases h; exact (.p _)
           ·apply iU h <;> intro h
            ·refine cP h Qi p1 fun v86 h => ?_
             apply iU h <;> intro h
             ·cases h; exact (.p _)
             ·cases h; exact (.p _)
            ·cases h; exact (.p _)
          ·apply iU h <;> intro h
           ·refine cP h Qi p1 fun v90 h => ?_
            apply iU h <;> intro h
            ·cases h; exact (.p _)
            ·cases h; exact (.p _)
           ·cases h; exact (.p _)
       ·apply iU h <;> intro h
        ·cases h; exact (.p _)
        ·apply iU h <;> intro h
         ·refine cP h Yb p1 fun v95 h => ?_
          apply iU h <;> intro h
          ·cases h; exact (.p _)
          ·apply iU h <;> intro h
           ·refine cP h Qi p1 fun v99 h => ?_
            apply iU h <;> intro h
            ·cases h; exact (.p _)
            ·cases h; exact (.p _)
           ·cases h; exact (.p _)
         ·apply iU h <;> intro h
          ·refine cP h Qi p1 fun v103 h => ?_
           apply iU h <;> intro h
           ·cases h; exact (.p _)
           ·cases h; exact (.p _)
          ·cases h; exact (.p _)
def Xn (_N : Nat) : Option (List Qg) :=
 some [(⟨64, 1, 0, false, false⟩ : Qg), (⟨65, 2, 0, false, false⟩ : Qg), (⟨66, 2, 0, false, false⟩ : Qg), (⟨86, 2, 1, false, false⟩ : Qg), (⟨80, 3, 1, false, false⟩ : Qg), (⟨96, 4, 2, false, false⟩ : Qg), (⟨67, 5, 0, false, false⟩ : Qg), (⟨82, 5, 1, false, false⟩ : Qg), (⟨112, 5, 4, false, false⟩ : Qg), (⟨68, 6, 0, false, false⟩ : Qg), (⟨83, 6, 1, false, false⟩ : Qg), (⟨128, 6, 8, false, false⟩ : Qg), (⟨81, 7, 1, false, false⟩ : Qg), (⟨97, 8, 2, false, false⟩ : Qg), (⟨84, 9, 1, false, false⟩ : Qg), (⟨113, 9, 4, false, false⟩ : Qg), (⟨85, 10, 1, false, false⟩ : Qg), (⟨129, 10, 8, false, false⟩ : Qg), (⟨114, 11, 4, false, false⟩ : Qg), (⟨130, 12, 8, false, false⟩ : Qg), (⟨116, 13, 4, false, false⟩ : Qg), (⟨132, 14, 8, false, false⟩ : Qg), (⟨148, 15, 16, false, false⟩ : Qg), (⟨115, 16, 4, false, false⟩ : Qg), (⟨131, 17, 8, false, false⟩ : Qg), (⟨152, 18, 16, false, false⟩ : Qg), (⟨160, 19, 1, true, false⟩ : Qg), (⟨176, 19, 4, true, false⟩ : Qg), (⟨161, 20, 1, true, false⟩ : Qg), (⟨177, 20, 4, true, false⟩ : Qg), (⟨163, 21, 1, true, false⟩ : Qg), (⟨179, 21, 4, true, false⟩ : Qg), (⟨69, 22, 0, false, true⟩ : Qg), (⟨192, 22, 1, true, true⟩ : Qg), (⟨208, 22, 4, true, true⟩ : Qg), (⟨193, 23, 1, true, true⟩ : Qg), (⟨209, 23, 4, true, true⟩ : Qg), (⟨224, 24, 1, true, true⟩ : Qg), (⟨240, 24, 4, true, true⟩ : Qg), (⟨0, 25, 0, false, true⟩ : Qg)]
theorem Q0k {N} {r} (h : Xn N = some r) : Zj Tryz.prog G1 58 [] (.slice 5 (Uv Qg.cells r)) := by
 refine Q4 k58 ?_
 unfold Xn at h
 obtain rfl := Qj h; exact (frz_own (c := Qg.cells) (l := ([(⟨64, 1, 0, false, false⟩ : Qg), (⟨65, 2, 0, false, false⟩ : Qg), (⟨66, 2, 0, false, false⟩ : Qg), (⟨86, 2, 1, false, false⟩ : Qg), (⟨80, 3, 1, false, false⟩ : Qg), (⟨96, 4, 2, false, false⟩ : Qg), (⟨67, 5, 0, false, false⟩ : Qg), (⟨82, 5, 1, false, false⟩ : Qg), (⟨112, 5, 4, false, false⟩ : Qg), (⟨68, 6, 0, false, false⟩ : Qg), (⟨83, 6, 1, false, false⟩ : Qg), (⟨128, 6, 8, false, false⟩ : Qg), (⟨81, 7, 1, false, false⟩ : Qg), (⟨97, 8, 2, false, false⟩ : Qg), (⟨84, 9, 1, false, false⟩ : Qg), (⟨113, 9, 4, false, false⟩ : Qg), (⟨85, 10, 1, false, false⟩ : Qg), (⟨129, 10, 8, false, false⟩ : Qg), (⟨114, 11, 4, false, false⟩ : Qg), (⟨130, 12, 8, false, false⟩ : Qg), (⟨116, 13, 4, false, false⟩ : Qg), (⟨132, 14, 8, false, false⟩ : Qg), (⟨148, 15, 16, false, false⟩ : Qg), (⟨115, 16, 4, false, false⟩ : Qg), (⟨131, 17, 8, false, false⟩ : Qg), (⟨152, 18, 16, false, false⟩ : Qg), (⟨160, 19, 1, true, false⟩ : Qg), (⟨176, 19, 4, true, false⟩ : Qg), (⟨161, 20, 1, true, false⟩ : Qg), (⟨177, 20, 4, true, false⟩ : Qg), (⟨163, 21, 1, true, false⟩ : Qg), (⟨179, 21, 4, true, false⟩ : Qg), (⟨69, 22, 0, false, true⟩ : Qg), (⟨192, 22, 1, true, true⟩ : Qg), (⟨208, 22, 4, true, true⟩ : Qg), (⟨193, 23, 1, true, true⟩ : Qg), (⟨209, 23, 4, true, true⟩ : Qg), (⟨224, 24, 1, true, true⟩ : Qg), (⟨240, 24, 4, true, true⟩ : Qg), (⟨0, 25, 0, false, true⟩ : Qg)] : List Qg)) (fun _ => rfl) rfl trivial (by simp))
def Yu (N : Nat) (code : Int) (v1 : List Qg) : Nat → Int → Option (Qg × Bool)
 | 0, _ => none
 | n + 1, i16 =>
  cond (Q8 .lss i16 ((Uv Qg.cells v1).length : Int))
  ((idx v1 i16).bind fun y18 =>
  cond (Q8 .eql y18.Code code)
  ((idx v1 i16).bind fun y21 =>
  some (y21, true))
  (Yu N code v1 n (IntKind.wrap .i64 (i16 + 1))))
  (some ((⟨0, 0, 0, false, false⟩ : Qg), false))
def Yl (N : Nat) (code : Int) : Option (Qg × Bool) :=
 (Xn N).bind fun v1 =>
 Yu N code v1 N 0
theorem Wz {N} {code} {r} (h : Yl N code = some r) : Zj Tryz.prog G1 60 [.int .i64 code] (.tuple [.agg (Qg.cells r.1), .bool r.2]) := by
 refine Q4 k60 ?_
 unfold Yl at h
 refine cP h Q0k p0 fun v1 h => ?_
 refine lpC (τ := Int) (fun i16 => (iI code :: .any :: .ptr 0 0 :: .any :: .p (.slice 5 (Uv Qg.cells v1)) :: iI i16 :: a16 (a2 (.any :: [])) : List AV)) (fun _ => (.cells (iI 0 :: iI 0 :: iI 0 :: .p (.bool false) :: .p (.bool false) :: []) :: [] : List AObj)) (fun n0 i16 => Yu N code v1 n0 i16) (0) h (fun i => i) ⟨(rE rfl <| rA <| rE rfl <| rA <| rE rfl <| rE rfl <| rX <| rX <| rW <| rA <| rN), (hE rfl <| hN), rfl, rfl, (roE rfl <| roN)⟩ fun n0 i16 h => ?_
 simp only [Yu] at h
 apply iU h <;> intro h
 ·refine xR h fun y18 h => ?_
  apply iU h <;> intro h
  ·refine xR h fun y21 h => ?_
   obtain rfl := Qj h; exact (Frz.tuple' (.cons (Frz.agg' p5) p1))
  ·show Exists _
   exact ⟨(n0, (IntKind.wrap .i64 (i16 + 1))), h, Nat.lt_succ_self _, (fun i => i), ⟨(rE rfl <| rA <| rE rfl <| rA <| rE rfl <| rE rfl <| rX <| rX <| rW <| rA <| rN), (hE rfl <| hN), rfl, rfl, (roE rfl <| roN)⟩⟩
 ·obtain rfl := Qj h; exact (Frz.tuple' (.cons (Frz.agg' p5) p1))
def Zp (N : Nat) (s_0 : List UInt8) : Nat → Int → Int → Option (Int)
 | 0, _, _ => none
 | n + 1, n9, i10 =>
  cond (Q8 .lss i10 (s_0.length : Int))
  ((idx s_0 i10).bind fun b12 =>
  Zp N s_0 n (orI .u64 (J6 .u64 n9 8) (IntKind.wrap .u64 (b12.toNat : Int))) (IntKind.wrap .i64 (i10 + 1)))
  (some n9)
def Zc (N : Nat) (s_0 : List UInt8) : Option (Int) :=
 Zp N s_0 N 0 0
theorem Xk {N} {s_0} {r} (h : Zc N s_0 = some r) : Zj Tryz.prog G1 82 [.str s_0] (.int .u64 r) := by
 refine Q4 k82 ?_
 unfold Zc at h
 refine lpC (τ := Int × Int) (fun ⟨n9, i10⟩ => (iS s_0 :: .any :: .any :: iW n9 :: iI i10 :: a8 (a4 (a2 ([]))) : List AV)) (fun ⟨_, _⟩ => ([] : List AObj)) (fun n0 ⟨n9, i10⟩ => Zp N s_0 n0 n9 i10) (0, 0) h (fun i => i) ⟨(rE rfl <| rW <| rE rfl <| rE rfl <| rX <| rV <| rW <| rN), (hN), rfl, rfl, (roN)⟩ fun n0 ⟨n9, i10⟩ h => ?_
 simp only [Zp] at h
 apply iU h <;> intro h
 ·refine xB h fun b12 h => ?_
  show Exists _
  exact ⟨(n0, (orI .u64 (J6 .u64 n9 8) (IntKind.wrap .u64 (b12.toNat : Int))), (IntKind.wrap .i64 (i10 + 1))), h, Nat.lt_succ_self _, (fun i => i), ⟨(rE rfl <| rW <| rE rfl <| rE rfl <| rX <| rV <| rW <| rN), (hN), rfl, rfl, (roN)⟩⟩
 ·cases h; exact (.p _)
def Xs (N : Nat) (n_0 : Int) (kind : Int) (width : Int) : Option (Int) :=
 (Qd N kind).bind fun v1 =>
 cond (Q8 .lss v1 0)
 (cond (decide (0 ≤ (IntKind.wrap .u64 (IntKind.wrap .i64 ((IntKind.wrap .i64 (8 * width)) - 1))))) (cond (Q8 .geq n_0 (J6 .u64 1 (IntKind.wrap .u64 (IntKind.wrap .i64 ((IntKind.wrap .i64 (8 * width)) - 1)))))
 (some (IntKind.wrap .u64 ((IntKind.wrap .u64 (n_0 - (J6 .u64 1 (IntKind.wrap .u64 (IntKind.wrap .i64 ((IntKind.wrap .i64 (8 * width)) - 1)))))) - (J6 .u64 1 (IntKind.wrap .u64 (IntKind.wrap .i64 ((IntKind.wrap .i64 (8 * width)) - 1)))))))
 (some n_0)) none)
 (cond (Q8 .eql kind 10)
 (cond (decide (0 ≤ (IntKind.wrap .u64 (IntKind.wrap .i64 ((IntKind.wrap .i64 (8 * width)) - 1))))) (cond (Q8 .geq n_0 (J6 .u64 1 (IntKind.wrap .u64 (IntKind.wrap .i64 ((IntKind.wrap .i64 (8 * width)) - 1)))))
 (some (IntKind.wrap .u64 ((IntKind.wrap .u64 (n_0 - (J6 .u64 1 (IntKind.wrap .u64 (IntKind.wrap .i64 ((IntKind.wrap .i64 (8 * width)) - 1)))))) - (J6 .u64 1 (IntKind.wrap .u64 (IntKind.wrap .i64 ((IntKind.wrap .i64 (8 * width)) - 1)))))))
 (some n_0)) none)
 (some n_0))
theorem Q0c {N} {n_0} {kind} {width} {r} (h : Xs N n_0 kind width = some r) : Zj Tryz.prog G1 119 [.int .u64 n_0, .int .i64 kind, .int .i64 width] (.int .u64 r) := by
 refine Q4 Que ?_
 unfold Xs at h
 refine cP h J2 p1 fun v1 h => ?_
 apply iU h <;> intro h
 ·refine kU h fun h => ?_
  apply iU h <;> intro h
  ·cases h; exact (.p _)
  ·cases h; exact (.p _)
 ·apply iU h <;> intro h
  ·refine kU h fun h => ?_
   apply iU h <;> intro h
   ·cases h; exact (.p _)
   ·cases h; exact (.p _)
  ·cases h; exact (.p _)
def Wq (N : Nat) (code : Int) (s_1 : List UInt8) : Option (Q0 × Int × Int) :=
 (Yl N code).bind fun v1 =>
 cond (!v1.2)
 (some ((⟨0, 0, [], []⟩ : Q0), 0, 8))
 (cond v1.1.Items
 (some ((⟨0, 0, [], []⟩ : Q0), 0, 8))
 (cond (Q8 .lss (s_1.length : Int) v1.1.Width)
 (some ((⟨0, 0, [], []⟩ : Q0), 0, 3))
 (cond v1.1.Sized
 (cond (decide (0 ≤ v1.1.Width)) (cond (Nat.ble 0 v1.1.Width.toNat && Nat.ble v1.1.Width.toNat s_1.length) ((Zc N ((s_1.take v1.1.Width.toNat).drop 0)).bind fun v9 =>
 cond (Q8 .gtr v9 (IntKind.wrap .u64 (IntKind.wrap .i64 ((s_1.length : Int) - v1.1.Width))))
 (some ((⟨0, 0, [], []⟩ : Q0), 0, 3))
 (cond (decide (0 ≤ (IntKind.wrap .i64 (v1.1.Width + (IntKind.wrap .i64 v9))))) (cond (Nat.ble v1.1.Width.toNat ((IntKind.wrap .i64 (v1.1.Width + (IntKind.wrap .i64 v9))).toNat) && Nat.ble ((IntKind.wrap .i64 (v1.1.Width + (IntKind.wrap .i64 v9))).toNat) s_1.length) ((Qr N (⟨v1.1.Kind, 0, ((s_1.take ((IntKind.wrap .i64 (v1.1.Width + (IntKind.wrap .i64 v9))).toNat)).drop v1.1.Width.toNat), []⟩ : Q0)).bind fun v14 =>
 cond (Q8 .eql v14 2)
 (some ((⟨0, 0, [], []⟩ : Q0), 0, 5))
 (cond (Q8 .neq v14 0)
 (some ((⟨0, 0, [], []⟩ : Q0), 0, v14))
 (some ((⟨v1.1.Kind, 0, ((s_1.take ((IntKind.wrap .i64 (v1.1.Width + (IntKind.wrap .i64 v9))).toNat)).drop v1.1.Width.toNat), []⟩ : Q0), (IntKind.wrap .i64 (v1.1.Width + (IntKind.wrap .i64 v9))), 0)))) none) none)) none) none)
 (cond (Q8 .eql v1.1.Width 16)
 (cond (Nat.ble 0 16 && Nat.ble 16 s_1.length) ((Qr N (⟨v1.1.Kind, 0, ((s_1.take 16).drop 0), []⟩ : Q0)).bind fun v20 =>
 cond (Q8 .eql v20 2)
 (some ((⟨0, 0, [], []⟩ : Q0), 0, 5))
 (cond (Q8 .neq v20 0)
 (some ((⟨0, 0, [], []⟩ : Q0), 0, v20))
 (some ((⟨v1.1.Kind, 0, ((s_1.take 16).drop 0), []⟩ : Q0), v1.1.Width, 0)))) none)
 (cond (Q8 .eql code 65)
 ((Qr N (⟨v1.1.Kind, 1, [], []⟩ : Q0)).bind fun v25 =>
 cond (Q8 .eql v25 2)
 (some ((⟨0, 0, [], []⟩ : Q0), 0, 5))
 (cond (Q8 .neq v25 0)
 (some ((⟨0, 0, [], []⟩ : Q0), 0, v25))
 (some ((⟨v1.1.Kind, 1, [], []⟩ : Q0), v1.1.Width, 0))))
 (cond (Q8 .gtr v1.1.Width 0)
 (cond (decide (0 ≤ v1.1.Width)) (cond (Nat.ble 0 v1.1.Width.toNat && Nat.ble v1.1.Width.toNat s_1.length) ((Zc N ((s_1.take v1.1.Width.toNat).drop 0)).bind fun v32 =>
 (Xs N v32 v1.1.Kind v1.1.Width).bind fun v34 =>
 (Qr N (⟨v1.1.Kind, v34, [], []⟩ : Q0)).bind fun v36 =>
 cond (Q8 .eql v36 2)
 (some ((⟨0, 0, [], []⟩ : Q0), 0, 5))
 (cond (Q8 .neq v36 0)
 (some ((⟨0, 0, [], []⟩ : Q0), 0, v36))
 (some ((⟨v1.1.Kind, v34, [], []⟩ : Q0), v1.1.Width, 0)))) none) none)
 ((Qr N (⟨v1.1.Kind, 0, [], []⟩ : Q0)).bind fun v40 =>
 cond (Q8 .eql v40 2)
 (some ((⟨0, 0, [], []⟩ : Q0), 0, 5))
 (cond (Q8 .neq v40 0)
 (some ((⟨0, 0, [], []⟩ : Q0), 0, v40))
 (some ((⟨v1.1.Kind, 0, [], []⟩ : Q0), v1.1.Width, 0))))))))))
theorem Q1r {N} {code} {s_1} {r} (h : Wq N code s_1 = some r) : Zj Tryz.prog G1 97 [.int .i64 code, .str s_1] (.tuple [.agg (Q0.cells r.1), .int .i64 r.2.1, .int .i64 r.2.2]) := by
 refine Q4 k97 ?_
 unfold Wq at h
 refine cP h Wz p1 fun v1 h => ?_
 apply iU h <;> intro h
 ·obtain rfl := Qj h; exact (Frz.tuple' (.cons q4n p2))
 ·apply iU h <;> intro h
  ·obtain rfl := Qj h; exact (Frz.tuple' (.cons q4n p2))
  ·apply iU h <;> intro h
   ·obtain rfl := Qj h; exact (Frz.tuple' (.cons q4n p2))
   ·apply iU h <;> intro h
    ·obtain ⟨hk7, h⟩ := Ql3 h
     refine Qb9 hk7 ?_
     refine kU h fun h => ?_
     refine cP h Xk p1 fun v9 h => ?_
     apply iU h <;> intro h
     ·obtain rfl := Qj h; exact (Frz.tuple' (.cons q4n p2))
     ·refine Qb9 hk7 ?_
      refine kU h fun h => ?_
      refine kU h fun h => ?_
      refine cP h Y0 (.cons q4n .nil) fun v14 h => ?_
      apply iU h <;> intro h
      ·refine ifT (by unfold Q8; decide) ?_
       obtain rfl := Qj h; exact (Frz.tuple' (.cons q4n p2))
      ·apply iU h <;> intro h
       ·obtain rfl := Qj h; exact (Frz.tuple' (.cons q4n p2))
       ·obtain rfl := Qj h; exact (Frz.tuple' (.cons q4n p2))
    ·apply iU h <;> intro h
     ·refine kU h fun h => ?_
      refine cP h Y0 (.cons q4n .nil) fun v20 h => ?_
      apply iU h <;> intro h
      ·refine ifT (by unfold Q8; decide) ?_
       obtain rfl := Qj h; exact (Frz.tuple' (.cons q4n p2))
      ·apply iU h <;> intro h
       ·obtain rfl := Qj h; exact (Frz.tuple' (.cons q4n p2))
       ·obtain rfl := Qj h; exact (Frz.tuple' (.cons q4n p2))
     ·apply iU h <;> intro h
      ·refine cP h Y0 (.cons q4n .nil) fun v25 h => ?_
       apply iU h <;> intro h
       ·refine ifT (by unfold Q8; decide) ?_
        obtain rfl := Qj h; exact (Frz.tuple' (.cons q4n p2))
       ·apply iU h <;> intro h
        ·obtain rfl := Qj h; exact (Frz.tuple' (.cons q4n p2))
        ·obtain rfl := Qj h; exact (Frz.tuple' (.cons q4n p2))
      ·apply iU h <;> intro h
       ·refine Z1 ?_
        refine kU h fun h => ?_
        refine kU h fun h => ?_
        refine cD h Xk p1 fun v32 h => ?_
        refine cD h Q0c p3 fun v34 h => ?_
        refine cP h Y0 (.cons q4n .nil) fun v36 h => ?_
        apply iU h <;> intro h
        ·refine ifT (by unfold Q8; decide) ?_
         obtain rfl := Qj h; exact (Frz.tuple' (.cons q4n p2))
        ·apply iU h <;> intro h
         ·obtain rfl := Qj h; exact (Frz.tuple' (.cons q4n p2))
         ·obtain rfl := Qj h; exact (Frz.tuple' (.cons q4n p2))
       ·refine cP h Y0 (.cons q4n .nil) fun v40 h => ?_
        apply iU h <;> intro h
        ·refine ifT (by unfold Q8; decide) ?_
         obtain rfl := Qj h; exact (Frz.tuple' (.cons q4n p2))
        ·apply iU h <;> intro h
         ·obtain rfl := Qj h; exact (Frz.tuple' (.cons q4n p2))
         ·obtain rfl := Qj h; exact (Frz.tuple' (.cons q4n p2))
def X8 (_N : Nat) (v : Q0) : Option (Bool) :=
 cond (Q8 .eql v.Kind 11)
 (cond (Q8 .eql (Q1x .u64 v.N' 2139095040) 2139095040)
 (cond (Q8 .neq (Q1x .u64 v.N' 8388607) 0)
 (some true)
 (cond (Q8 .eql v.Kind 12)
 (cond (Q8 .eql (Q1x .u64 v.N' 9218868437227405312) 9218868437227405312)
 (some (Q8 .neq (Q1x .u64 v.N' 4503599627370495) 0))
 (some false))
 (some false)))
 (cond (Q8 .eql v.Kind 12)
 (cond (Q8 .eql (Q1x .u64 v.N' 9218868437227405312) 9218868437227405312)
 (some (Q8 .neq (Q1x .u64 v.N' 4503599627370495) 0))
 (some false))
 (some false)))
 (cond (Q8 .eql v.Kind 12)
 (cond (Q8 .eql (Q1x .u64 v.N' 9218868437227405312) 9218868437227405312)
 (some (Q8 .neq (Q1x .u64 v.N' 4503599627370495) 0))
 (some false))
 (some false))
theorem Ur {N} {v} {r} (h : X8 N v = some r) : Zj Tryz.prog G1 141 [.agg (Q0.cells v)] (.bool r) := by
 refine Q4 Quh ?_
 unfold X8 at h
 apply iU h <;> intro h
 ·apply iU h <;> intro h
  ·apply iU h <;> intro h
   ·cases h; exact (.p _)
   ·apply iU h <;> intro h
    ·apply iU h <;> intro h
     ·cases h; exact (.p _)
     ·cases h; exact (.p _)
    ·cases h; exact (.p _)
  ·apply iU h <;> intro h
   ·apply iU h <;> intro h
    ·cases h; exact (.p _)
    ·cases h; exact (.p _)
   ·cases h; exact (.p _)
 ·apply iU h <;> intro h
  ·apply iU h <;> intro h
   ·cases h; exact (.p _)
   ·cases h; exact (.p _)
  ·cases h; exact (.p _)
def Zx (R_polyglotref17_alike : Q0 → Q0 → Option (Bool)) (N : Nat) (a : Q0) (b : Q0) : Nat → Int → Option (Bool)
 | 0, _ => none
 | n + 1, i28 =>
  cond (Q8 .lss i28 ((Q0.rows a.Items).length : Int))
  ((idx a.Items i28).bind fun y30 =>
  (idx b.Items i28).bind fun y32 =>
  (R_polyglotref17_alike y30 y32).bind fun v34 =>
  cond (!v34)
  (some false)
  (Zx R_polyglotref17_alike N a b n (IntKind.wrap .i64 (i28 + 1))))
  (some true)
def Zy (R_polyglotref17_alike : Q0 → Q0 → Option (Bool)) (N : Nat) (a : Q0) (b : Q0) : Nat → Int → Option (Bool)
 | 0, _ => none
 | n + 1, i56 =>
  cond (Q8 .lss i56 ((Q0.rows a.Items).length : Int))
  ((idx a.Items i56).bind fun y58 =>
  (idx b.Items i56).bind fun y60 =>
  (R_polyglotref17_alike y58 y60).bind fun v62 =>
  cond (!v62)
  (some false)
  (Zy R_polyglotref17_alike N a b n (IntKind.wrap .i64 (i56 + 1))))
  (some true)
def Ww (R_polyglotref17_alike : Q0 → Q0 → Option (Bool)) (N : Nat) (a : Q0) (b : Q0) : Option (Bool) :=
 cond (Q8 .neq a.Kind b.Kind)
 (some false)
 (cond (Q8 .neq a.N' b.N')
 ((X8 N a).bind fun v3 =>
 cond v3
 ((X8 N b).bind fun v6 =>
 cond (!v6)
 (some false)
 (cond (Q14 .neq a.Text b.Text)
 (some false)
 (cond (Q8 .neq ((Q0.rows a.Items).length : Int) ((Q0.rows b.Items).length : Int))
 (some false)
 (Zx R_polyglotref17_alike N a b N 0))))
 (some false))
 (cond (Q14 .neq a.Text b.Text)
 (some false)
 (cond (Q8 .neq ((Q0.rows a.Items).length : Int) ((Q0.rows b.Items).length : Int))
 (some false)
 (Zy R_polyglotref17_alike N a b N 0))))
theorem Q0g {R_polyglotref17_alike : Q0 → Q0 → Option (Bool)} (hR_polyglotref17_alike : ∀ {a} {b} {r}, R_polyglotref17_alike a b = some r → Zj Tryz.prog G1 121 [.agg (Q0.cells a), .agg (Q0.cells b)] (.bool r)) {N} {a} {b} {r} (h : Ww R_polyglotref17_alike N a b = some r) : Zj Tryz.prog G1 121 [.agg (Q0.cells a), .agg (Q0.cells b)] (.bool r) := by
 refine Q4 Qtm ?_
 unfold Ww at h
 apply iU h <;> intro h
 ·cases h; exact (.p _)
 ·apply iU h <;> intro h
  ·refine cP h Ur (.cons q4 .nil) fun v3 h => ?_
   apply iU h <;> intro h
   ·refine cP h Ur (.cons q4 .nil) fun v6 h => ?_
    apply iU h <;> intro h
    ·cases h; exact (.p _)
    ·apply iU h <;> intro h
     ·cases h; exact (.p _)
     ·apply iU h <;> intro h
      ·cases h; exact (.p _)
      ·refine lpC (τ := Int) (fun i28 => (.any :: .any :: .ptr 0 0 :: .ptr 1 0 :: .any :: iI i28 :: a16 (a16 (a16 (a8 ([])))) : List AV)) (fun _ => (.cells (iI a.Kind :: iW a.N' :: iS a.Text :: .p (.slice 4 (Q0.rows a.Items)) :: []) :: .cells (iI b.Kind :: iW b.N' :: iS b.Text :: .p (.slice 4 (Q0.rows b.Items)) :: []) :: [] : List AObj)) (fun n0 i28 => Zx R_polyglotref17_alike N a b n0 i28) (0) h (fun i => i) ⟨(rW <| rE rfl <| rE rfl <| rA <| rE rfl <| rX <| rX <| rX <| rX <| rX <| rX <| rX <| rN), (hE rfl <| hE rfl <| hN), rfl, rfl, (roE rfl <| roE rfl <| roN)⟩ fun n0 i28 h => ?_
       simp only [Zx] at h
       apply iU h <;> intro h
       ·refine Z1 ?_
        refine Q0.xR h fun y30 h => ?_
        refine Q0.xR h fun y32 h => ?_
        refine cD h hR_polyglotref17_alike (.cons q4 (.cons q4 .nil)) fun v34 h => ?_
        apply iU h <;> intro h
        ·cases h; exact (.p _)
        ·show Exists _
         exact ⟨(n0, (IntKind.wrap .i64 (i28 + 1))), h, Nat.lt_succ_self _, (fun i => i), ⟨(rW <| rE rfl <| rE rfl <| rA <| rE rfl <| rX <| rX <| rX <| rX <| rX <| rX <| rX <| rN), (hE rfl <| hE rfl <| hN), rfl, rfl, (roE rfl <| roE rfl <| roN)⟩⟩
       ·cases h; exact (.p _)
   ·cases h; exact (.p _)
  ·apply iU h <;> intro h
   ·cases h; exact (.p _)
   ·apply iU h <;> intro h
    ·cases h; exact (.p _)
    ·refine lpC (τ := Int) (fun i56 => (.any :: .any :: .ptr 0 0 :: .ptr 1 0 :: .any :: iI i56 :: a16 (a16 (a16 (a8 ([])))) : List AV)) (fun _ => (.cells (iI a.Kind :: iW a.N' :: iS a.Text :: .p (.slice 4 (Q0.rows a.Items)) :: []) :: .cells (iI b.Kind :: iW b.N' :: iS b.Text :: .p (.slice 4 (Q0.rows b.Items)) :: []) :: [] : List AObj)) (fun n1 i56 => Zy R_polyglotref17_alike N a b n1 i56) (0) h (fun i => i) ⟨(rW <| rE rfl <| rE rfl <| rA <| rE rfl <| rX <| rX <| rX <| rX <| rX <| rX <| rX <| rN), (hE rfl <| hE rfl <| hN), rfl, rfl, (roE rfl <| roE rfl <| roN)⟩ fun n1 i56 h => ?_
     simp only [Zy] at h
     apply iU h <;> intro h
     ·refine Z1 ?_
      refine Q0.xR h fun y58 h => ?_
      refine Q0.xR h fun y60 h => ?_
      refine cD h hR_polyglotref17_alike (.cons q4 (.cons q4 .nil)) fun v62 h => ?_
      apply iU h <;> intro h
      ·cases h; exact (.p _)
      ·show Exists _
       exact ⟨(n1, (IntKind.wrap .i64 (i56 + 1))), h, Nat.lt_succ_self _, (fun i => i), ⟨(rW <| rE rfl <| rE rfl <| rA <| rE rfl <| rX <| rX <| rX <| rX <| rX <| rX <| rX <| rN), (hE rfl <| hE rfl <| hN), rfl, rfl, (roE rfl <| roE rfl <| roN)⟩⟩
     ·cases h; exact (.p _)
def Y4 : Nat → Q0 → Q0 → Option (Bool)
 | 0 => fun _ _ => none
 | N + 1 => Ww (Y4 N) N
theorem Q0r {N} {a} {b} {r} (h : Y4 N a b = some r) : Zj Tryz.prog G1 121 [.agg (Q0.cells a), .agg (Q0.cells b)] (.bool r) := by
 induction N generalizing a b r with
 | zero => simp [Y4] at h
 | succ N ih => exact Q0g (fun h => ih h) h
def Y1 (N : Nat) (k0 : Int → Option (Bool)) (items : List Q0) (i30 : Int) : Nat → Int → Option (Bool)
 | 0, _ => none
 | n + 1, k49 =>
  cond (Q8 .lss k49 i30)
  ((idx items i30).bind fun y51 =>
  (idx items k49).bind fun y53 =>
  (Y4 N y51 y53).bind fun v55 =>
  cond v55
  (some true)
  (Y1 N k0 items i30 n (IntKind.wrap .i64 (k49 + 2))))
  (k0 (IntKind.wrap .i64 (i30 + 2)))
def Z4 (N : Nat) (items : List Q0) : Nat → Int → Option (Bool)
 | 0, _ => none
 | n + 1, i30 =>
  cond (Q8 .lss i30 ((Q0.rows items).length : Int))
  (Y1 N (Z4 N items n) items i30 N 0)
  (some false)
def Zi (N : Nat) (items : List Q0) : Option (Bool) :=
 Z4 N items N 0
theorem V8 {N} {items} {r} (h : Zi N items = some r) : Zj Tryz.prog G1 100 [.slice 4 (Q0.rows items)] (.bool r) := by
 refine Q4 Quo ?_
 unfold Zi at h
 refine lpC (τ := Int) (fun i30 => (.p (.slice 4 (Q0.rows items)) :: .any :: .any :: iI i30 :: a16 (a4 (.any :: [])) : List AV)) (fun _ => ([] : List AObj)) (fun n0 i30 => Z4 N items n0 i30) (0) h (fun i => i) ⟨(rE rfl <| rW <| rE rfl <| rX <| rX <| rV <| rA <| rN), (hN), rfl, rfl, (roN)⟩ fun n0 i30 h => ?_
 simp only [Z4] at h
 apply iU h <;> intro h
 ·refine lpC (τ := Int) (fun k49 => (.p (.slice 4 (Q0.rows items)) :: .any :: .any :: iI i30 :: iI k49 :: a16 (a4 ([])) : List AV)) (fun _ => ([] : List AObj)) (fun n1 k49 => Y1 N (Z4 N items n0) items i30 n1 k49) (0) h (fun i => i) ⟨(rE rfl <| rW <| rE rfl <| rE rfl <| rX <| rX <| rV <| rN), (hN), rfl, rfl, (roN)⟩ fun n1 k49 h => ?_
  simp only [Y1] at h
  apply iU h <;> intro h
  ·refine Z1 ?_
   refine Q0.xR h fun y51 h => ?_
   refine Q0.xR h fun y53 h => ?_
   refine cD h Q0r (.cons q4 (.cons q4 .nil)) fun v55 h => ?_
   apply iU h <;> intro h
   ·cases h; exact (.p _)
   ·show Exists _
    exact ⟨(n1, (IntKind.wrap .i64 (k49 + 2))), h, Nat.lt_succ_self _, (fun i => i), ⟨(rE rfl <| rW <| rE rfl <| rE rfl <| rX <| rX <| rV <| rN), (hN), rfl, rfl, (roN)⟩⟩
  ·show Exists _
   exact ⟨(n0, (IntKind.wrap .i64 (i30 + 2))), h, Nat.lt_succ_self _, (fun i => i), ⟨(rE rfl <| rW <| rE rfl <| rX <| rX <| rV <| rA <| rN), (hN), rfl, rfl, (roN)⟩⟩
 ·cases h; exact (.p _)
end
end
end Go.Av
