/- The law. Part of a proof of a given statement: for every input the law returns true and the arguments read as before; no condition beyond the given row. -/
import Derived.Test.YtkemhhfbpniioaaGreatDoorLiftF0
namespace Go.Av
noncomputable section
open Go.Proofs
set_option maxRecDepth 100000
set_option maxHeartbeats 4000000
attribute [local irreducible] U6 Xv Q7q Q9j Q8 Q3o Qin
section
def Xp (rz : Q0 → Option (Q1)) (N : Nat) (v : Q0) : Nat → Int → (List Q1) → Option (Q1)
 | 0, _, _ => none
 | n + 1, s14, l15 =>
  cond (Q8 .lss s14 ((Q0.rows v.Items).length : Int))
  ((idx v.Items s14).bind fun y17 =>
  (rz y17).bind fun v19 =>
  cond (Nat.ble ((l15.length + 1 + 4096) * 96) 17592186044416) (Xp rz N v n (IntKind.wrap .i64 (s14 + 1)) (l15 ++ [v19])) none)
  (cond (Q8 .eql v.Kind 24)
  ((Wl N (IntKind.wrap .i64 v.N') l15).bind fun v23 =>
  cond ((v.Kind : Int) == 22)
  ((Zh N (⟨v, l15, v23, 0⟩ : Q1)).bind fun v26 =>
  some (⟨v, l15, v23, v26⟩ : Q1))
  (cond ((v.Kind : Int) == 23)
  ((Zh N (⟨v, l15, v23, 0⟩ : Q1)).bind fun v29 =>
  some (⟨v, l15, v23, v29⟩ : Q1))
  (cond ((v.Kind : Int) == 24)
  ((W8 N (⟨v, l15, v23, 0⟩ : Q1)).bind fun v32 =>
  some (⟨v, l15, v23, v32⟩ : Q1))
  (some (⟨v, l15, v23, 0⟩ : Q1)))))
  (cond ((v.Kind : Int) == 22)
  ((Zh N (⟨v, l15, 0, 0⟩ : Q1)).bind fun v35 =>
  some (⟨v, l15, 0, v35⟩ : Q1))
  (cond ((v.Kind : Int) == 23)
  ((Zh N (⟨v, l15, 0, 0⟩ : Q1)).bind fun v38 =>
  some (⟨v, l15, 0, v38⟩ : Q1))
  (cond ((v.Kind : Int) == 24)
  ((W8 N (⟨v, l15, 0, 0⟩ : Q1)).bind fun v41 =>
  some (⟨v, l15, 0, v41⟩ : Q1))
  (some (⟨v, l15, 0, 0⟩ : Q1))))))
def Jq (rz : Q0 → Option (Q1)) (N : Nat) (v : Q0) : Option (Q1) :=
 Xp rz N v N 0 []
theorem Q3k {rz : Q0 → Option (Q1)} (hv1 : ∀ {v} {r}, rz v = some r → Zp Tryz.prog G1 63 [.agg (Q0.cells v)] (.agg (Q1.cells r))) {N} {v} {r} (h : Jq rz N v = some r) : Zp Tryz.prog G1 63 [.agg (Q0.cells v)] (.agg (Q1.cells r)) := by
 refine Q4 k63 ?_
 unfold Jq at h
 refine lpC (τ := Int × (List Q1)) (fun ⟨s14, _⟩ => (.any :: .ptr 0 0 :: .ptr 1 0 :: .ptr 2 0 :: a8 (.p (.slice 4 (Q0.rows v.Items)) :: iI ((Q0.rows v.Items).length : Int) :: iI s14 :: a16 (a16 (a4 ([])))) : List AV)) (fun ⟨_, l15⟩ => (.cells (iI v.Kind :: iW v.N' :: iS v.Text :: .p (.slice 4 (Q0.rows v.Items)) :: []) :: .cells (iI 0 :: iW 0 :: iS [] :: .p .nilSlice :: .p .nilSlice :: iI 0 :: iI 0 :: []) :: .cells (iI v.Kind :: iW v.N' :: iS v.Text :: .p (.slice 4 (Q0.rows v.Items)) :: .slice 7 3 0 l15.length :: iI 0 :: iI 0 :: []) :: .cells (Xq Q1.cells l15) :: [] : List AObj)) (fun n0 ⟨s14, l15⟩ => Xp rz N v n0 s14 l15) (0, []) h (fun i => i) ⟨(rA <| rE rfl <| rE rfl <| rE rfl <| rX <| rE rfl <| rE rfl <| rE rfl <| rX <| rX <| rX <| rX <| rV <| rN), (hE rfl <| hE rfl <| hC rfl (rE rfl <| rE rfl <| rE rfl <| rE rfl <| rS <| rE rfl <| rE rfl <| rN) <| hV lb <| hN), rfl, rfl, (roE rfl <| roE rfl <| roE rfl <| roE (Qb _ _ _) <| roN)⟩ fun n0 ⟨s14, l15⟩ h => ?_
 simp only [Xp] at h
 apply iU h <;> intro h
 ·refine Q0.xR h fun y17 h => ?_
  refine Qw ?_
  refine cD h hv1 (.cons q4 .nil) fun v19 h => ?_
  obtain ⟨hk21, h⟩ := Qgg h
  refine Q72 (Gx (c := Q1.cells) (e := 7) (fun _ => rfl) (by simp) hk21) ?_
  refine Q2n (c := Q1.cells) [v19] rfl ?_
  show Exists _
  exact ⟨(n0, (IntKind.wrap .i64 (s14 + 1)), (l15 ++ [v19])), h, Nat.lt_succ_self _, (rho [0, 1, 2, 6]), ⟨(rA <| rE rfl <| rE rfl <| rE rfl <| rX <| rE rfl <| rE rfl <| rE rfl <| rX <| rX <| rX <| rX <| rV <| rN), (hE rfl <| hE rfl <| hC rfl (rE rfl <| rE rfl <| rE rfl <| rE rfl <| rL (by simp) rfl <| rE rfl <| rE rfl <| rN) <| hO rfl <| hN), rfl, rfl, (roE rfl <| roE rfl <| roE rfl <| roE (Qb _ _ _) <| roN)⟩⟩
 ·apply iU h <;> intro h
  ·refine cK h Gi (.cons (.p _) (.cons (Q1.frz_own (l := l15) rfl trivial (by simp)) .nil)) fun v23 h => ?_
   apply iU h <;> intro h
   ·refine cK h Wk (.cons (Frz.agg' (.cons (.p _) (.cons (.p _) (.cons (.p _) (.cons (.p _) (.cons (Q1.frz_own (l := l15) rfl trivial (by simp)) p2)))))) .nil) fun v26 h => ?_
    obtain rfl := Ql h; exact (Frz.agg' (.cons (.p _) (.cons (.p _) (.cons (.p _) (.cons (.p _) (.cons (Q1.frz_own (l := l15) rfl trivial (by simp)) p2))))))
   ·apply iU h <;> intro h
    ·refine cK h Wk (.cons (Frz.agg' (.cons (.p _) (.cons (.p _) (.cons (.p _) (.cons (.p _) (.cons (Q1.frz_own (l := l15) rfl trivial (by simp)) p2)))))) .nil) fun v29 h => ?_
     obtain rfl := Ql h; exact (Frz.agg' (.cons (.p _) (.cons (.p _) (.cons (.p _) (.cons (.p _) (.cons (Q1.frz_own (l := l15) rfl trivial (by simp)) p2))))))
    ·apply iU h <;> intro h
     ·refine cK h Uu (.cons (Frz.agg' (.cons (.p _) (.cons (.p _) (.cons (.p _) (.cons (.p _) (.cons (Q1.frz_own (l := l15) rfl trivial (by simp)) p2)))))) .nil) fun v32 h => ?_
      obtain rfl := Ql h; exact (Frz.agg' (.cons (.p _) (.cons (.p _) (.cons (.p _) (.cons (.p _) (.cons (Q1.frz_own (l := l15) rfl trivial (by simp)) p2))))))
     ·obtain rfl := Ql h; exact (Frz.agg' (.cons (.p _) (.cons (.p _) (.cons (.p _) (.cons (.p _) (.cons (Q1.frz_own (l := l15) rfl trivial (by simp)) p2))))))
  ·apply iU h <;> intro h
   ·refine cK h Wk (.cons (Frz.agg' (.cons (.p _) (.cons (.p _) (.cons (.p _) (.cons (.p _) (.cons (Q1.frz_own (l := l15) rfl trivial (by simp)) p2)))))) .nil) fun v35 h => ?_
    obtain rfl := Ql h; exact (Frz.agg' (.cons (.p _) (.cons (.p _) (.cons (.p _) (.cons (.p _) (.cons (Q1.frz_own (l := l15) rfl trivial (by simp)) p2))))))
   ·apply iU h <;> intro h
    ·refine cK h Wk (.cons (Frz.agg' (.cons (.p _) (.cons (.p _) (.cons (.p _) (.cons (.p _) (.cons (Q1.frz_own (l := l15) rfl trivial (by simp)) p2)))))) .nil) fun v38 h => ?_
     obtain rfl := Ql h; exact (Frz.agg' (.cons (.p _) (.cons (.p _) (.cons (.p _) (.cons (.p _) (.cons (Q1.frz_own (l := l15) rfl trivial (by simp)) p2))))))
    ·apply iU h <;> intro h
     ·refine cK h Uu (.cons (Frz.agg' (.cons (.p _) (.cons (.p _) (.cons (.p _) (.cons (.p _) (.cons (Q1.frz_own (l := l15) rfl trivial (by simp)) p2)))))) .nil) fun v41 h => ?_
      obtain rfl := Ql h; exact (Frz.agg' (.cons (.p _) (.cons (.p _) (.cons (.p _) (.cons (.p _) (.cons (Q1.frz_own (l := l15) rfl trivial (by simp)) p2))))))
     ·obtain rfl := Ql h; exact (Frz.agg' (.cons (.p _) (.cons (.p _) (.cons (.p _) (.cons (.p _) (.cons (Q1.frz_own (l := l15) rfl trivial (by simp)) p2))))))
def V2 : Nat → Q0 → Option (Q1)
 | 0 => fun _ => none
 | N + 1 => Jq (V2 N) N
theorem Q3m {N} {v} {r} (h : V2 N v = some r) : Zp Tryz.prog G1 63 [.agg (Q0.cells v)] (.agg (Q1.cells r)) := by
 induction N generalizing v r with
 | zero => simp [V2] at h
 | succ N ih => exact Q3k (fun h => ih h) h
def Vd (N : Nat) (v : Q0) (most : Int) : Option ((List UInt8) × Int) :=
 (Vw N v most).bind fun v1 =>
 cond (Q8 .neq v1 0)
 (some ([], v1))
 ((W7 N v).bind fun v4 =>
 (V2 N v4).bind fun v6 =>
 (Z2 N (⟨(⟨[]⟩ : Qq)⟩ : Q2) v6).bind fun v8 =>
 (Wg N v8.2.buffer).bind fun v10 =>
 some (v10.1, 0))
theorem Q00 {N} {v} {most} {r} (h : Vd N v most = some r) : Zp Tryz.prog G1 17 [.agg (Q0.cells v), .int .i64 most] (.tuple [.str r.1, .int .i64 r.2]) := by
 refine Q4 k17 ?_
 unfold Vd at h
 refine cP h Q46 (.cons q4 p1) fun v1 h => ?_
 apply iU h <;> intro h
 ·obtain rfl := Ql h; exact u2
 ·refine cP h Q4n (.cons q4 .nil) fun v4 h => ?_
  refine cP h Q3m p1 fun v6 h => ?_
  refine cG h Q09 fun v8 h => ?_
  refine ⟨rho [1, 3], (.cells (iI v.Kind :: iW v.N' :: iS v.Text :: .p (.slice 4 (Q0.rows v.Items)) :: []) :: .cells (.slice 1 2 0 v8.2.buffer.b.length :: []) :: .cells (Xq (cI .u8) v8.2.buffer.b) :: []), .tuple [], ⟨(rE rfl <| rE rfl <| rN), (hC rfl (rS <| rN) <| hV lb <| hN), rfl, rfl, (roE rfl <| roE (Qb _ _ _) <| roN), rfl, (fK rfl rfl <| fR 0 rfl rfl rfl rfl <| fO 2 rfl rfl rfl <| fN), rfl⟩, ?_⟩
  refine cG h Gh fun v10 h => ?_
  refine ⟨rho [1, 2], (.cells (iI v.Kind :: iW v.N' :: iS v.Text :: .p (.slice 4 (Q0.rows v.Items)) :: []) :: .cells (.slice 1 3 0 v10.2.b.length :: []) :: .dead :: .cells (Xq (cI .u8) v10.2.b) :: []), iS v10.1, ⟨(rE rfl <| rN), (hE rfl <| hO rfl <| hN), rfl, rfl, (roE rfl <| roE (Qb _ _ _) <| roN), rfl, (fK rfl rfl <| fR 0 rfl rfl rfl rfl <| fD <| fO 2 rfl rfl rfl <| fN), rfl⟩, ?_⟩
  obtain rfl := Ql h; exact u2
def Ji (_N : Nat) (kind : Int) (n_1 : Int) : Option (Q0) :=
 some (⟨kind, n_1, [], []⟩ : Q0)
theorem Q0a {N} {kind} {n_1} {r} (h : Ji N kind n_1 = some r) : Zp Tryz.prog G1 39 [.int .i64 kind, .int .u64 n_1] (.agg (Q0.cells r)) := by
 refine Q4 k39 ?_
 unfold Ji at h
 obtain rfl := Ql h; exact q4n
def W6 (N : Nat) : Option (Bool) :=
 (Ji N 2 1).bind fun v1 =>
 (Ji N 1 0).bind fun v3 =>
 (Vd N (⟨22, 0, [], [v1, v3]⟩ : Q0) 2).bind fun v5 =>
 cond (Q8 .eql v5.2 0)
 (some (Q3o .eql v5.1 [192, 3, 2, 65, 64]))
 (some false)
theorem Q12 {N} {r} (h : W6 N = some r) : Zp Tryz.prog G1 12 [] (.bool r) := by
 refine Q4 k12 ?_
 unfold W6 at h
 refine cP h Q0a p2 fun v1 h => ?_
 refine cP h Q0a p2 fun v3 h => ?_
 refine Q6n k30 ?_
 refine cK h Q00 (.cons (Frz.agg' (.cons (.p _) (.cons (.p _) (.cons (.p _) (.cons (Q0.frz_own (l := [v1, v3]) rfl trivial (by simp)) .nil))))) p1) fun v5 h => ?_
 apply iU h <;> intro h
 ·cases h; exact (.p _)
 ·cases h; exact (.p _)
def Y9 (N : Nat) (s_0 : List UInt8) : Nat → Int → Option (Bool)
 | 0, _ => none
 | n + 1, i10 =>
  cond (Q8 .lss i10 (s_0.length : Int))
  ((idx s_0 i10).bind fun b12 =>
  cond (Q8 .geq (b12.toNat : Int) 128)
  (some false)
  (Y9 N s_0 n (IntKind.wrap .i64 (i10 + 1))))
  (some true)
def Qi (N : Nat) (s_0 : List UInt8) : Option (Bool) :=
 Y9 N s_0 N 0
theorem Qm {N} {s_0} {r} (h : Qi N s_0 = some r) : Zp Tryz.prog G1 56 [.str s_0] (.bool r) := by
 refine Q4 k56 ?_
 unfold Qi at h
 refine lpC (τ := Int) (fun i10 => (iS s_0 :: .any :: .any :: iI i10 :: a8 (a2 ([])) : List AV)) (fun _ => ([] : List AObj)) (fun n0 i10 => Y9 N s_0 n0 i10) (0) h (fun i => i) ⟨(rE rfl <| rW <| rE rfl <| rX <| rW <| rN), (hN), rfl, rfl, (roN)⟩ fun n0 i10 h => ?_
 simp only [Y9] at h
 apply iU h <;> intro h
 ·refine xB h fun b12 h => ?_
  apply iU h <;> intro h
  ·cases h; exact (.p _)
  ·show Exists _
   exact ⟨(n0, (IntKind.wrap .i64 (i10 + 1))), h, Nat.lt_succ_self _, (fun i => i), ⟨(rE rfl <| rW <| rE rfl <| rX <| rW <| rN), (hN), rfl, rfl, (roN)⟩⟩
 ·cases h; exact (.p _)
def Qf (_N : Nat) (kind : Int) : Option (Int) :=
 cond (Q8 .eql kind 2)
 (some 1)
 (cond (Q8 .eql kind 3)
 (some 8)
 (cond (Q8 .eql kind 4)
 (some 16)
 (cond (Q8 .eql kind 5)
 (some 32)
 (cond (Q8 .eql kind 11)
 (some 32)
 (cond (Q8 .eql kind 13)
 (some 32)
 (cond (Q8 .eql kind 16)
 (some 32)
 (cond (Q8 .eql kind 6)
 (some 64)
 (cond (Q8 .eql kind 12)
 (some 64)
 (cond (Q8 .eql kind 14)
 (some 64)
 (cond (Q8 .eql kind 17)
 (some 64)
 (cond (Q8 .eql kind 10)
 (some 64)
 (cond (Q8 .eql kind 7)
 (some (-8))
 (cond (Q8 .eql kind 8)
 (some (-16))
 (cond (Q8 .eql kind 9)
 (some (-32))
 (some 0)))))))))))))))
theorem J7 {N} {kind} {r} (h : Qf N kind = some r) : Zp Tryz.prog G1 83 [.int .i64 kind] (.int .i64 r) := by
 refine Q4 k83 ?_
 unfold Qf at h
 apply iU h <;> intro h
 ·cases h; exact (.p _)
 ·apply iU h <;> intro h
  ·cases h; exact (.p _)
  ·apply iU h <;> intro h
   ·cases h; exact (.p _)
   ·refine ifO h (fun hc4 h => ?_) (fun hc4 h => ?_)
    ·refine ifT hc4 ?_
     cases h; exact (.p _)
    ·refine ifO h (fun hc5 h => ?_) (fun hc5 h => ?_)
     ·refine ifT hc5 ?_
      cases h; exact (.p _)
     ·refine ifO h (fun hc6 h => ?_) (fun hc6 h => ?_)
      ·refine ifT hc6 ?_
       cases h; exact (.p _)
      ·apply iU h <;> intro h
       ·cases h; exact (.p _)
       ·refine ifO h (fun hc8 h => ?_) (fun hc8 h => ?_)
        ·refine ifT hc8 ?_
         cases h; exact (.p _)
        ·refine ifO h (fun hc9 h => ?_) (fun hc9 h => ?_)
         ·refine ifT hc9 ?_
          cases h; exact (.p _)
         ·refine ifO h (fun hc10 h => ?_) (fun hc10 h => ?_)
          ·refine ifT hc10 ?_
           cases h; exact (.p _)
          ·refine ifO h (fun hc11 h => ?_) (fun hc11 h => ?_)
           ·refine ifT hc11 ?_
            cases h; exact (.p _)
           ·apply iU h <;> intro h
            ·cases h; exact (.p _)
            ·apply iU h <;> intro h
             ·cases h; exact (.p _)
             ·apply iU h <;> intro h
              ·cases h; exact (.p _)
              ·apply iU h <;> intro h
               ·cases h; exact (.p _)
               ·cases h; exact (.p _)
def Wr (_N : Nat) (n_0 : Int) : Option (Bool) :=
 cond (Q8 .leq n_0 1114111)
 (cond (Q8 .lss n_0 55296)
 (some true)
 (some (Q8 .gtr n_0 57343)))
 (some false)
theorem Q1y {N} {n_0} {r} (h : Wr N n_0 = some r) : Zp Tryz.prog G1 84 [.int .u64 n_0] (.bool r) := by
 refine Q4 k84 ?_
 unfold Wr at h
 apply iU h <;> intro h
 ·apply iU h <;> intro h
  ·cases h; exact (.p _)
  ·cases h; exact (.p _)
 ·cases h; exact (.p _)
def Z8 (_N : Nat) (n_0 : Int) (bits : Int) : Option (Bool) :=
 cond (decide (0 ≤ (IntKind.wrap .u64 (bits - 1)))) (cond (Q8 .lss n_0 (Ut .u64 1 (IntKind.wrap .u64 (bits - 1))))
 (some true)
 (some (Q8 .geq n_0 (IntKind.wrap .u64 (0 - (Ut .u64 1 (IntKind.wrap .u64 (bits - 1)))))))) none
theorem X5 {N} {n_0} {bits} {r} (h : Z8 N n_0 bits = some r) : Zp Tryz.prog G1 85 [.int .u64 n_0, .int .u64 bits] (.bool r) := by
 refine Q4 k85 ?_
 unfold Z8 at h
 refine kU h fun h => ?_
 apply iU h <;> intro h
 ·cases h; exact (.p _)
 ·cases h; exact (.p _)
def X0 (N : Nat) (v : Q0) : Option (Bool) :=
 (Qf N v.Kind).bind fun v1 =>
 cond (Q8 .eql v.Kind 16)
 ((Wr N v.N').bind fun v4 =>
 some v4)
 (cond (Q8 .eql v1 0)
 (some (Q8 .eql v.N' 0))
 (cond (Q8 .lss v1 0)
 ((Z8 N v.N' (IntKind.wrap .u64 (IntKind.wrap .i64 (0 - v1)))).bind fun v8 =>
 some v8)
 (cond (Q8 .eql v1 64)
 (some true)
 (cond (decide (0 ≤ (IntKind.wrap .u64 v1))) (some (Q8 .lss v.N' (Ut .u64 1 (IntKind.wrap .u64 v1)))) none))))
theorem Ul {N} {v} {r} (h : X0 N v = some r) : Zp Tryz.prog G1 53 [.agg (Q0.cells v)] (.bool r) := by
 refine Q4 k53 ?_
 unfold X0 at h
 refine cP h J7 p1 fun v1 h => ?_
 apply iU h <;> intro h
 ·refine cP h Q1y p1 fun v4 h => ?_
  cases h; exact (.p _)
 ·apply iU h <;> intro h
  ·cases h; exact (.p _)
  ·apply iU h <;> intro h
   ·refine cP h X5 p2 fun v8 h => ?_
    cases h; exact (.p _)
   ·apply iU h <;> intro h
    ·cases h; exact (.p _)
    ·refine kU h fun h => ?_
     cases h; exact (.p _)
def Xa (_N : Nat) (kind : Int) : Option (Bool) :=
 cond (Q8 .eql kind 15)
 (some true)
 (cond (Q8 .geq kind 18)
 (some (Q8 .leq kind 21))
 (some false))
theorem Uy {N} {kind} {r} (h : Xa N kind = some r) : Zp Tryz.prog G1 54 [.int .i64 kind] (.bool r) := by
 refine Q4 k54 ?_
 unfold Xa at h
 apply iU h <;> intro h
 ·cases h; exact (.p _)
 ·apply iU h <;> intro h
  ·cases h; exact (.p _)
  ·cases h; exact (.p _)
def Q6 (_N : Nat) (s_0 : List UInt8) (i : Int) (low : Int) (high : Int) : Option (Bool) :=
 cond (Q8 .lss i (s_0.length : Int))
 ((idx s_0 i).bind fun b2 =>
 cond (Q8 .geq (b2.toNat : Int) low)
 ((idx s_0 i).bind fun b5 =>
 some (Q8 .leq (b5.toNat : Int) high))
 (some false))
 (some false)
theorem Qd {N} {s_0} {i} {low} {high} {r} (h : Q6 N s_0 i low high = some r) : Zp Tryz.prog G1 108 [.str s_0, .int .i64 i, .int .u8 low, .int .u8 high] (.bool r) := by
 refine Q4 Qve ?_
 unfold Q6 at h
 apply iU h <;> intro h
 ·refine xB h fun b2 h => ?_
  apply iU h <;> intro h
  ·refine xB h fun b5 h => ?_
   cases h; exact (.p _)
  ·cases h; exact (.p _)
 ·cases h; exact (.p _)
def Z1 (_N : Nat) (s139 : Bool) : Option (Int) :=
 cond s139
 (some 4)
 (some 0)
def Zj (N : Nat) (k4 : Bool → Option (Int)) (s_0 : List UInt8) (i : Int) (b1 : UInt8) (s170 : Bool) : Option (Int) :=
 cond s170
 (k4 s170)
 (cond (Q8 .eql (b1.toNat : Int) 244)
 ((Q6 N s_0 (IntKind.wrap .i64 (i + 1)) 128 143).bind fun v183 =>
 cond v183
 ((Q6 N s_0 (IntKind.wrap .i64 (i + 2)) 128 191).bind fun v186 =>
 cond v186
 ((Q6 N s_0 (IntKind.wrap .i64 (i + 3)) 128 191).bind fun v189 =>
 k4 v189)
 (k4 false))
 (k4 false))
 (k4 false))
def Zt (N : Nat) (k4 : Bool → Option (Int)) (s_0 : List UInt8) (i : Int) (b1 : UInt8) (s149 : Bool) : Option (Int) :=
 cond s149
 (k4 s149)
 (cond (Q8 .geq (b1.toNat : Int) 241)
 (cond (Q8 .leq (b1.toNat : Int) 243)
 ((Q6 N s_0 (IntKind.wrap .i64 (i + 1)) 128 191).bind fun v173 =>
 cond v173
 ((Q6 N s_0 (IntKind.wrap .i64 (i + 2)) 128 191).bind fun v176 =>
 cond v176
 ((Q6 N s_0 (IntKind.wrap .i64 (i + 3)) 128 191).bind fun v179 =>
 Zj N k4 s_0 i b1 v179)
 (Zj N k4 s_0 i b1 false))
 (Zj N k4 s_0 i b1 false))
 (Zj N k4 s_0 i b1 false))
 (Zj N k4 s_0 i b1 false))
def Ze (N : Nat) (s_0 : List UInt8) (i : Int) (b1 : UInt8) (s50 : Bool) : Option (Int) :=
 cond s50
 (some 3)
 (cond (Q8 .eql (b1.toNat : Int) 240)
 ((Q6 N s_0 (IntKind.wrap .i64 (i + 1)) 144 191).bind fun v151 =>
 cond v151
 ((Q6 N s_0 (IntKind.wrap .i64 (i + 2)) 128 191).bind fun v154 =>
 cond v154
 ((Q6 N s_0 (IntKind.wrap .i64 (i + 3)) 128 191).bind fun v157 =>
 Zt N (Z1 N) s_0 i b1 v157)
 (Zt N (Z1 N) s_0 i b1 false))
 (Zt N (Z1 N) s_0 i b1 false))
 (Zt N (Z1 N) s_0 i b1 false))
def Yk (N : Nat) (k1 : Bool → Option (Int)) (s_0 : List UInt8) (i : Int) (b1 : UInt8) (s71 : Bool) : Option (Int) :=
 cond s71
 (k1 s71)
 (cond (Q8 .geq (b1.toNat : Int) 225)
 (cond (Q8 .leq (b1.toNat : Int) 239)
 (cond (Q8 .neq (b1.toNat : Int) 237)
 ((Q6 N s_0 (IntKind.wrap .i64 (i + 1)) 128 191).bind fun v82 =>
 cond v82
 ((Q6 N s_0 (IntKind.wrap .i64 (i + 2)) 128 191).bind fun v85 =>
 k1 v85)
 (k1 false))
 (k1 false))
 (k1 false))
 (k1 false))
def Yp (N : Nat) (k1 : Bool → Option (Int)) (s_0 : List UInt8) (i : Int) (b1 : UInt8) (s57 : Bool) : Option (Int) :=
 cond s57
 (k1 s57)
 (cond (Q8 .eql (b1.toNat : Int) 237)
 ((Q6 N s_0 (IntKind.wrap .i64 (i + 1)) 128 159).bind fun v73 =>
 cond v73
 ((Q6 N s_0 (IntKind.wrap .i64 (i + 2)) 128 191).bind fun v76 =>
 Yk N k1 s_0 i b1 v76)
 (Yk N k1 s_0 i b1 false))
 (Yk N k1 s_0 i b1 false))
def Yn (N : Nat) (s_0 : List UInt8) (i : Int) (b1 : UInt8) (s8 : Bool) : Option (Int) :=
 cond s8
 (some 2)
 (cond (Q8 .eql (b1.toNat : Int) 224)
 ((Q6 N s_0 (IntKind.wrap .i64 (i + 1)) 160 191).bind fun v59 =>
 cond v59
 ((Q6 N s_0 (IntKind.wrap .i64 (i + 2)) 128 191).bind fun v62 =>
 Yp N (Ze N s_0 i b1) s_0 i b1 v62)
 (Yp N (Ze N s_0 i b1) s_0 i b1 false))
 (Yp N (Ze N s_0 i b1) s_0 i b1 false))
def Wt (N : Nat) (s_0 : List UInt8) (i : Int) : Option (Int) :=
 (idx s_0 i).bind fun b1 =>
 cond (Q8 .lss (b1.toNat : Int) 128)
 (some 1)
 (cond (Q8 .geq (b1.toNat : Int) 194)
 (cond (Q8 .leq (b1.toNat : Int) 223)
 ((Q6 N s_0 (IntKind.wrap .i64 (i + 1)) 128 191).bind fun v11 =>
 Yn N s_0 i b1 v11)
 (Yn N s_0 i b1 false))
 (Yn N s_0 i b1 false))
theorem Q1b {N} {s_0} {i} {r} (h : Wt N s_0 i = some r) : Zp Tryz.prog G1 86 [.str s_0, .int .i64 i] (.int .i64 r) := by
 refine Q4 k86 ?_
 unfold Wt at h
 refine xB h fun b1 h => ?_
 apply iU h <;> intro h
 ·cases h; exact (.p _)
 ·refine Vf (σ := Bool) (fun s8 => (iS s_0 :: iI i :: a2 (.any :: .p (.int .u8 (b1.toNat : Int)) :: a4 (a2 (.p (.bool s8) :: a16 (a16 (a16 (a16 (a16 (a16 (a16 (a16 ([]))))))))))) : List AV)) (fun _ => ([] : List AObj)) (fun s8 => Yn N s_0 i b1 s8 = some r) (fun _ _ => lb) ?_ ?_
  ·apply iU h <;> intro h
   ·apply iU h <;> intro h
    ·refine cP h Qd p4 fun v11 h => ?_
     show Exists _
     exact ⟨(v11), h, (fun i => i), ⟨(rE rfl <| rE rfl <| rW <| rA <| rE rfl <| rV <| rW <| rE rfl <| rX <| rX <| rX <| rX <| rX <| rX <| rX <| rX <| rX <| rX <| rX <| rX <| rX <| rX <| rX <| rX <| rN), (hN), rfl, rfl, (roN)⟩⟩
    ·show Exists _
     exact ⟨(false), h, (fun i => i), ⟨(rE rfl <| rE rfl <| rW <| rA <| rE rfl <| rV <| rW <| rE rfl <| rX <| rX <| rX <| rX <| rX <| rX <| rX <| rX <| rX <| rX <| rX <| rX <| rX <| rX <| rX <| rX <| rN), (hN), rfl, rfl, (roN)⟩⟩
   ·show Exists _
    exact ⟨(false), h, (fun i => i), ⟨(rE rfl <| rE rfl <| rW <| rA <| rE rfl <| rV <| rW <| rE rfl <| rX <| rX <| rX <| rX <| rX <| rX <| rX <| rX <| rX <| rX <| rX <| rX <| rX <| rX <| rX <| rX <| rN), (hN), rfl, rfl, (roN)⟩⟩
  rintro s8 h
  dsimp only [Yn] at h
  apply iU h <;> intro h
  ·cases h; exact (.p _)
  ·refine Vf (σ := Bool) (fun s50 => (iS s_0 :: iI i :: a2 (.any :: .p (.int .u8 (b1.toNat : Int)) :: a16 (a2 (.any :: .p (.bool s50) :: a16 (a16 (a16 (a16 (a16 (a16 (a16 (a2 (.any :: []))))))))))) : List AV)) (fun _ => ([] : List AObj)) (fun s50 => Ze N s_0 i b1 s50 = some r) (fun _ _ => lb) ?_ ?_
   ·refine Vf (σ := Bool) (fun s57 => (iS s_0 :: iI i :: a2 (.any :: .p (.int .u8 (b1.toNat : Int)) :: a16 (a2 (.any :: .p (.bool s57) :: a16 (a16 (a16 (a16 (a16 (a16 (a16 (a2 (.any :: []))))))))))) : List AV)) (fun _ => ([] : List AObj)) (fun s57 => Yp N (Ze N s_0 i b1) s_0 i b1 s57 = some r) (fun _ _ => lb) ?_ ?_
    ·apply iU h <;> intro h
     ·refine cP h Qd p4 fun v59 h => ?_
      apply iU h <;> intro h
      ·refine cP h Qd p4 fun v62 h => ?_
       show Exists _
       exact ⟨(v62), h, (fun i => i), ⟨(rE rfl <| rE rfl <| rW <| rA <| rE rfl <| rX <| rX <| rW <| rA <| rE rfl <| rX <| rX <| rX <| rX <| rX <| rX <| rX <| rX <| rX <| rX <| rX <| rX <| rX <| rX <| rW <| rA <| rN), (hN), rfl, rfl, (roN)⟩⟩
      ·show Exists _
       exact ⟨(false), h, (fun i => i), ⟨(rE rfl <| rE rfl <| rW <| rA <| rE rfl <| rX <| rX <| rW <| rA <| rE rfl <| rX <| rX <| rX <| rX <| rX <| rX <| rX <| rX <| rX <| rX <| rX <| rX <| rX <| rX <| rW <| rA <| rN), (hN), rfl, rfl, (roN)⟩⟩
     ·show Exists _
      exact ⟨(false), h, (fun i => i), ⟨(rE rfl <| rE rfl <| rW <| rA <| rE rfl <| rX <| rX <| rW <| rA <| rE rfl <| rX <| rX <| rX <| rX <| rX <| rX <| rX <| rX <| rX <| rX <| rX <| rX <| rX <| rX <| rW <| rA <| rN), (hN), rfl, rfl, (roN)⟩⟩
    rintro s57 h
    dsimp only [Yp] at h
    apply iU h <;> intro h
    ·show Exists _
     exact ⟨(s57), h, (fun i => i), ⟨(rE rfl <| rE rfl <| rW <| rA <| rE rfl <| rX <| rX <| rW <| rA <| rE rfl <| rX <| rX <| rX <| rX <| rX <| rX <| rX <| rX <| rX <| rX <| rX <| rX <| rX <| rX <| rW <| rA <| rN), (hN), rfl, rfl, (roN)⟩⟩
    ·refine Vf (σ := Bool) (fun s71 => (iS s_0 :: iI i :: a2 (.any :: .p (.int .u8 (b1.toNat : Int)) :: a16 (a2 (.any :: .p (.bool s71) :: a16 (a16 (a16 (a16 (a16 (a16 (a16 (a2 (.any :: []))))))))))) : List AV)) (fun _ => ([] : List AObj)) (fun s71 => Yk N (Ze N s_0 i b1) s_0 i b1 s71 = some r) (fun _ _ => lb) ?_ ?_
     ·apply iU h <;> intro h
      ·refine cP h Qd p4 fun v73 h => ?_
       apply iU h <;> intro h
       ·refine cP h Qd p4 fun v76 h => ?_
        show Exists _
        exact ⟨(v76), h, (fun i => i), ⟨(rE rfl <| rE rfl <| rW <| rA <| rE rfl <| rX <| rX <| rW <| rA <| rE rfl <| rX <| rX <| rX <| rX <| rX <| rX <| rX <| rX <| rX <| rX <| rX <| rX <| rX <| rX <| rW <| rA <| rN), (hN), rfl, rfl, (roN)⟩⟩
       ·show Exists _
        exact ⟨(false), h, (fun i => i), ⟨(rE rfl <| rE rfl <| rW <| rA <| rE rfl <| rX <| rX <| rW <| rA <| rE rfl <| rX <| rX <| rX <| rX <| rX <| rX <| rX <| rX <| rX <| rX <| rX <| rX <| rX <| rX <| rW <| rA <| rN), (hN), rfl, rfl, (roN)⟩⟩
      ·show Exists _
       exact ⟨(false), h, (fun i => i), ⟨(rE rfl <| rE rfl <| rW <| rA <| rE rfl <| rX <| rX <| rW <| rA <| rE rfl <| rX <| rX <| rX <| rX <| rX <| rX <| rX <| rX <| rX <| rX <| rX <| rX <| rX <| rX <| rW <| rA <| rN), (hN), rfl, rfl, (roN)⟩⟩
     rintro s71 h
     dsimp only [Yk] at h
     apply iU h <;> intro h
     ·show Exists _
      exact ⟨(s71), h, (fun i => i), ⟨(rE rfl <| rE rfl <| rW <| rA <| rE rfl <| rX <| rX <| rW <| rA <| rE rfl <| rX <| rX <| rX <| rX <| rX <| rX <| rX <| rX <| rX <| rX <| rX <| rX <| rX <| rX <| rW <| rA <| rN), (hN), rfl, rfl, (roN)⟩⟩
     ·apply iU h <;> intro h
      ·apply iU h <;> intro h
       ·apply iU h <;> intro h
        ·refine cP h Qd p4 fun v82 h => ?_
         apply iU h <;> intro h
         ·refine cP h Qd p4 fun v85 h => ?_
          show Exists _
          exact ⟨(v85), h, (fun i => i), ⟨(rE rfl <| rE rfl <| rW <| rA <| rE rfl <| rX <| rX <| rW <| rA <| rE rfl <| rX <| rX <| rX <| rX <| rX <| rX <| rX <| rX <| rX <| rX <| rX <| rX <| rX <| rX <| rW <| rA <| rN), (hN), rfl, rfl, (roN)⟩⟩
         ·show Exists _
          exact ⟨(false), h, (fun i => i), ⟨(rE rfl <| rE rfl <| rW <| rA <| rE rfl <| rX <| rX <| rW <| rA <| rE rfl <| rX <| rX <| rX <| rX <| rX <| rX <| rX <| rX <| rX <| rX <| rX <| rX <| rX <| rX <| rW <| rA <| rN), (hN), rfl, rfl, (roN)⟩⟩
        ·show Exists _
         exact ⟨(false), h, (fun i => i), ⟨(rE rfl <| rE rfl <| rW <| rA <| rE rfl <| rX <| rX <| rW <| rA <| rE rfl <| rX <| rX <| rX <| rX <| rX <| rX <| rX <| rX <| rX <| rX <| rX <| rX <| rX <| rX <| rW <| rA <| rN), (hN), rfl, rfl, (roN)⟩⟩
       ·show Exists _
        exact ⟨(false), h, (fun i => i), ⟨(rE rfl <| rE rfl <| rW <| rA <| rE rfl <| rX <| rX <| rW <| rA <| rE rfl <| rX <| rX <| rX <| rX <| rX <| rX <| rX <| rX <| rX <| rX <| rX <| rX <| rX <| rX <| rW <| rA <| rN), (hN), rfl, rfl, (roN)⟩⟩
      ·show Exists _
       exact ⟨(false), h, (fun i => i), ⟨(rE rfl <| rE rfl <| rW <| rA <| rE rfl <| rX <| rX <| rW <| rA <| rE rfl <| rX <| rX <| rX <| rX <| rX <| rX <| rX <| rX <| rX <| rX <| rX <| rX <| rX <| rX <| rW <| rA <| rN), (hN), rfl, rfl, (roN)⟩⟩
   rintro s50 h
   dsimp only [Ze] at h
   apply iU h <;> intro h
   ·cases h; exact (.p _)
   ·refine Vf (σ := Bool) (fun s139 => (a16 (a16 (a16 (a16 (a8 (a4 (.p (.bool s139) :: a16 (a16 (a16 (a16 ([])))))))))) : List AV)) (fun _ => ([] : List AObj)) (fun s139 => Z1 N s139 = some r) (fun _ _ => lb) ?_ ?_
    ·refine Vf (σ := Bool) (fun s149 => (iS s_0 :: iI i :: a2 (.any :: .p (.int .u8 (b1.toNat : Int)) :: a16 (a16 (a16 (a16 (a4 (a2 (.p (.bool s149) :: a16 (a16 (a16 (a16 ([]))))))))))) : List AV)) (fun _ => ([] : List AObj)) (fun s149 => Zt N (Z1 N) s_0 i b1 s149 = some r) (fun _ _ => lb) ?_ ?_
     ·apply iU h <;> intro h
      ·refine cP h Qd p4 fun v151 h => ?_
       apply iU h <;> intro h
       ·refine cP h Qd p4 fun v154 h => ?_
        apply iU h <;> intro h
        ·refine cP h Qd p4 fun v157 h => ?_
         show Exists _
         exact ⟨(v157), h, (fun i => i), ⟨(rE rfl <| rE rfl <| rW <| rA <| rE rfl <| rX <| rX <| rX <| rX <| rX <| rX <| rX <| rX <| rV <| rW <| rE rfl <| rX <| rX <| rX <| rX <| rX <| rX <| rX <| rX <| rN), (hN), rfl, rfl, (roN)⟩⟩
        ·show Exists _
         exact ⟨(false), h, (fun i => i), ⟨(rE rfl <| rE rfl <| rW <| rA <| rE rfl <| rX <| rX <| rX <| rX <| rX <| rX <| rX <| rX <| rV <| rW <| rE rfl <| rX <| rX <| rX <| rX <| rX <| rX <| rX <| rX <| rN), (hN), rfl, rfl, (roN)⟩⟩
       ·show Exists _
        exact ⟨(false), h, (fun i => i), ⟨(rE rfl <| rE rfl <| rW <| rA <| rE rfl <| rX <| rX <| rX <| rX <| rX <| rX <| rX <| rX <| rV <| rW <| rE rfl <| rX <| rX <| rX <| rX <| rX <| rX <| rX <| rX <| rN), (hN), rfl, rfl, (roN)⟩⟩
      ·show Exists _
       exact ⟨(false), h, (fun i => i), ⟨(rE rfl <| rE rfl <| rW <| rA <| rE rfl <| rX <| rX <| rX <| rX <| rX <| rX <| rX <| rX <| rV <| rW <| rE rfl <| rX <| rX <| rX <| rX <| rX <| rX <| rX <| rX <| rN), (hN), rfl, rfl, (roN)⟩⟩
     rintro s149 h
     dsimp only [Zt] at h
     apply iU h <;> intro h
     ·show Exists _
      exact ⟨(s149), h, (fun i => i), ⟨(rX <| rX <| rX <| rX <| rX <| rX <| rX <| rX <| rX <| rV <| rE rfl <| rX <| rX <| rX <| rX <| rX <| rX <| rX <| rX <| rN), (hN), rfl, rfl, (roN)⟩⟩
     ·refine Vf (σ := Bool) (fun s170 => (iS s_0 :: iI i :: a2 (.any :: .p (.int .u8 (b1.toNat : Int)) :: a16 (a16 (a16 (a16 (a4 (a2 (.p (.bool s170) :: a16 (a16 (a16 (a16 ([]))))))))))) : List AV)) (fun _ => ([] : List AObj)) (fun s170 => Zj N (Z1 N) s_0 i b1 s170 = some r) (fun _ _ => lb) ?_ ?_
      ·apply iU h <;> intro h
       ·apply iU h <;> intro h
        ·refine cP h Qd p4 fun v173 h => ?_
         apply iU h <;> intro h
         ·refine cP h Qd p4 fun v176 h => ?_
          apply iU h <;> intro h
          ·refine cP h Qd p4 fun v179 h => ?_
           show Exists _
           exact ⟨(v179), h, (fun i => i), ⟨(rE rfl <| rE rfl <| rW <| rA <| rE rfl <| rX <| rX <| rX <| rX <| rX <| rX <| rX <| rX <| rV <| rW <| rE rfl <| rX <| rX <| rX <| rX <| rX <| rX <| rX <| rX <| rN), (hN), rfl, rfl, (roN)⟩⟩
          ·show Exists _
           exact ⟨(false), h, (fun i => i), ⟨(rE rfl <| rE rfl <| rW <| rA <| rE rfl <| rX <| rX <| rX <| rX <| rX <| rX <| rX <| rX <| rV <| rW <| rE rfl <| rX <| rX <| rX <| rX <| rX <| rX <| rX <| rX <| rN), (hN), rfl, rfl, (roN)⟩⟩
         ·show Exists _
          exact ⟨(false), h, (fun i => i), ⟨(rE rfl <| rE rfl <| rW <| rA <| rE rfl <| rX <| rX <| rX <| rX <| rX <| rX <| rX <| rX <| rV <| rW <| rE rfl <| rX <| rX <| rX <| rX <| rX <| rX <| rX <| rX <| rN), (hN), rfl, rfl, (roN)⟩⟩
        ·show Exists _
         exact ⟨(false), h, (fun i => i), ⟨(rE rfl <| rE rfl <| rW <| rA <| rE rfl <| rX <| rX <| rX <| rX <| rX <| rX <| rX <| rX <| rV <| rW <| rE rfl <| rX <| rX <| rX <| rX <| rX <| rX <| rX <| rX <| rN), (hN), rfl, rfl, (roN)⟩⟩
       ·show Exists _
        exact ⟨(false), h, (fun i => i), ⟨(rE rfl <| rE rfl <| rW <| rA <| rE rfl <| rX <| rX <| rX <| rX <| rX <| rX <| rX <| rX <| rV <| rW <| rE rfl <| rX <| rX <| rX <| rX <| rX <| rX <| rX <| rX <| rN), (hN), rfl, rfl, (roN)⟩⟩
      rintro s170 h
      dsimp only [Zj] at h
      apply iU h <;> intro h
      ·show Exists _
       exact ⟨(s170), h, (fun i => i), ⟨(rX <| rX <| rX <| rX <| rX <| rX <| rX <| rX <| rX <| rV <| rE rfl <| rX <| rX <| rX <| rX <| rX <| rX <| rX <| rX <| rN), (hN), rfl, rfl, (roN)⟩⟩
      ·apply iU h <;> intro h
       ·refine cP h Qd p4 fun v183 h => ?_
        apply iU h <;> intro h
        ·refine cP h Qd p4 fun v186 h => ?_
         apply iU h <;> intro h
         ·refine cP h Qd p4 fun v189 h => ?_
          show Exists _
          exact ⟨(v189), h, (fun i => i), ⟨(rX <| rX <| rX <| rX <| rX <| rX <| rX <| rX <| rX <| rV <| rE rfl <| rX <| rX <| rX <| rX <| rX <| rX <| rX <| rX <| rN), (hN), rfl, rfl, (roN)⟩⟩
         ·show Exists _
          exact ⟨(false), h, (fun i => i), ⟨(rX <| rX <| rX <| rX <| rX <| rX <| rX <| rX <| rX <| rV <| rE rfl <| rX <| rX <| rX <| rX <| rX <| rX <| rX <| rX <| rN), (hN), rfl, rfl, (roN)⟩⟩
        ·show Exists _
         exact ⟨(false), h, (fun i => i), ⟨(rX <| rX <| rX <| rX <| rX <| rX <| rX <| rX <| rX <| rV <| rE rfl <| rX <| rX <| rX <| rX <| rX <| rX <| rX <| rX <| rN), (hN), rfl, rfl, (roN)⟩⟩
       ·show Exists _
        exact ⟨(false), h, (fun i => i), ⟨(rX <| rX <| rX <| rX <| rX <| rX <| rX <| rX <| rX <| rV <| rE rfl <| rX <| rX <| rX <| rX <| rX <| rX <| rX <| rX <| rN), (hN), rfl, rfl, (roN)⟩⟩
    rintro s139 h
    dsimp only [Z1] at h
    apply iU h <;> intro h
    ·cases h; exact (.p _)
    ·cases h; exact (.p _)
def Yi (N : Nat) (s_0 : List UInt8) : Nat → Int → Option (Bool)
 | 0, _ => none
 | n + 1, i10 =>
  cond (Q8 .lss i10 (s_0.length : Int))
  ((Wt N s_0 i10).bind fun v12 =>
  cond (Q8 .eql v12 0)
  (some false)
  (Yi N s_0 n (IntKind.wrap .i64 (i10 + v12))))
  (some true)
def Zc (N : Nat) (s_0 : List UInt8) : Option (Bool) :=
 Yi N s_0 N 0
theorem Yj {N} {s_0} {r} (h : Zc N s_0 = some r) : Zp Tryz.prog G1 55 [.str s_0] (.bool r) := by
 refine Q4 k55 ?_
 unfold Zc at h
 refine lpC (τ := Int) (fun i10 => (iS s_0 :: .any :: .any :: iI i10 :: a8 (a4 (.any :: [])) : List AV)) (fun _ => ([] : List AObj)) (fun n0 i10 => Yi N s_0 n0 i10) (0) h (fun i => i) ⟨(rE rfl <| rW <| rE rfl <| rX <| rV <| rA <| rN), (hN), rfl, rfl, (roN)⟩ fun n0 i10 h => ?_
 simp only [Yi] at h
 apply iU h <;> intro h
 ·refine cP h Q1b p2 fun v12 h => ?_
  apply iU h <;> intro h
  ·cases h; exact (.p _)
  ·show Exists _
   exact ⟨(n0, (IntKind.wrap .i64 (i10 + v12))), h, Nat.lt_succ_self _, (fun i => i), ⟨(rE rfl <| rW <| rE rfl <| rX <| rV <| rA <| rN), (hN), rfl, rfl, (roN)⟩⟩
 ·cases h; exact (.p _)
def Qj (N : Nat) (v : Q0) : Option (Int) :=
 cond (Q8 .eql v.Kind 15)
 (cond (Q8 .lss v.Kind 1)
 (some 8)
 (cond (Q8 .gtr v.Kind 21)
 (some 8)
 ((X0 N v).bind fun v4 =>
 cond (!v4)
 (some 2)
 (cond (Q8 .gtr ((Q0.rows v.Items).length : Int) 0)
 (some 2)
 ((Xa N v.Kind).bind fun v8 =>
 cond (!v8)
 (cond (Q3o .neq v.Text [])
 (some 2)
 (cond (Q8 .neq (v.Text.length : Int) 16)
 (some 2)
 (cond (Q8 .gtr (v.Text.length : Int) 1048576)
 (some 4)
 (cond (Q8 .eql v.Kind 20)
 ((Zc N v.Text).bind fun v15 =>
 cond (!v15)
 (some 6)
 (cond (Q8 .eql v.Kind 21)
 ((Qi N v.Text).bind fun v19 =>
 cond (!v19)
 (some 6)
 (some 0))
 (some 0)))
 (cond (Q8 .eql v.Kind 21)
 ((Qi N v.Text).bind fun v23 =>
 cond (!v23)
 (some 6)
 (some 0))
 (some 0))))))
 (cond (Q8 .neq (v.Text.length : Int) 16)
 (some 2)
 (cond (Q8 .gtr (v.Text.length : Int) 1048576)
 (some 4)
 (cond (Q8 .eql v.Kind 20)
 ((Zc N v.Text).bind fun v29 =>
 cond (!v29)
 (some 6)
 (cond (Q8 .eql v.Kind 21)
 ((Qi N v.Text).bind fun v33 =>
 cond (!v33)
 (some 6)
 (some 0))
 (some 0)))
 (cond (Q8 .eql v.Kind 21)
 ((Qi N v.Text).bind fun v37 =>
 cond (!v37)
 (some 6)
 (some 0))
 (some 0))))))))))
 (cond (Q8 .lss v.Kind 1)
 (some 8)
 (cond (Q8 .gtr v.Kind 21)
 (some 8)
 ((X0 N v).bind fun v42 =>
 cond (!v42)
 (some 2)
 (cond (Q8 .gtr ((Q0.rows v.Items).length : Int) 0)
 (some 2)
 ((Xa N v.Kind).bind fun v46 =>
 cond (!v46)
 (cond (Q3o .neq v.Text [])
 (some 2)
 (cond (Q8 .eql v.Kind 18)
 (cond (Q8 .neq (v.Text.length : Int) 16)
 (some 2)
 (cond (Q8 .gtr (v.Text.length : Int) 1048576)
 (some 4)
 (cond (Q8 .eql v.Kind 20)
 ((Zc N v.Text).bind fun v54 =>
 cond (!v54)
 (some 6)
 (cond (Q8 .eql v.Kind 21)
 ((Qi N v.Text).bind fun v58 =>
 cond (!v58)
 (some 6)
 (some 0))
 (some 0)))
 (cond (Q8 .eql v.Kind 21)
 ((Qi N v.Text).bind fun v62 =>
 cond (!v62)
 (some 6)
 (some 0))
 (some 0)))))
 (cond (Q8 .gtr (v.Text.length : Int) 1048576)
 (some 4)
 (cond (Q8 .eql v.Kind 20)
 ((Zc N v.Text).bind fun v67 =>
 cond (!v67)
 (some 6)
 (cond (Q8 .eql v.Kind 21)
 ((Qi N v.Text).bind fun v71 =>
 cond (!v71)
 (some 6)
 (some 0))
 (some 0)))
 (cond (Q8 .eql v.Kind 21)
 ((Qi N v.Text).bind fun v75 =>
 cond (!v75)
 (some 6)
 (some 0))
 (some 0))))))
 (cond (Q8 .eql v.Kind 18)
 (cond (Q8 .neq (v.Text.length : Int) 16)
 (some 2)
 (cond (Q8 .gtr (v.Text.length : Int) 1048576)
 (some 4)
 (cond (Q8 .eql v.Kind 20)
 ((Zc N v.Text).bind fun v82 =>
 cond (!v82)
 (some 6)
 (cond (Q8 .eql v.Kind 21)
 ((Qi N v.Text).bind fun v86 =>
 cond (!v86)
 (some 6)
 (some 0))
 (some 0)))
 (cond (Q8 .eql v.Kind 21)
 ((Qi N v.Text).bind fun v90 =>
 cond (!v90)
 (some 6)
 (some 0))
 (some 0)))))
 (cond (Q8 .gtr (v.Text.length : Int) 1048576)
 (some 4)
 (cond (Q8 .eql v.Kind 20)
 ((Zc N v.Text).bind fun v95 =>
 cond (!v95)
 (some 6)
 (cond (Q8 .eql v.Kind 21)
 ((Qi N v.Text).bind fun v99 =>
 cond (!v99)
 (some 6)
 (some 0))
 (some 0)))
 (cond (Q8 .eql v.Kind 21)
 ((Qi N v.Text).bind fun v103 =>
 cond (!v103)
 (some 6)
 (some 0))
 (some 0))))))))))
theorem Z9 {N} {v} {r} (h : Qj N v = some r) : Zp Tryz.prog G1 13 [.agg (Q0.cells v)] (.int .i64 r) := by
 refine Q4 k13 ?_
 unfold Qj at h
 apply iU h <;> intro h
 ·apply iU h <;> intro h
  ·cases h; exact (.p _)
  ·apply iU h <;> intro h
   ·cases h; exact (.p _)
   ·refine cP h Ul (.cons q4 .nil) fun v4 h => ?_
    apply iU h <;> intro h
    ·cases h; exact (.p _)
    ·apply iU h <;> intro h
     ·cases h; exact (.p _)
     ·refine cP h Uy p1 fun v8 h => ?_
      apply iU h <;> intro h
      ·apply iU h <;> intro h
       ·cases h; exact (.p _)
       ·apply iU h <;> intro h
        ·cases h; exact (.p _)
        ·apply iU h <;> intro h
         ·cases h; exact (.p _)
         ·apply iU h <;> intro h
          ·refine cP h Yj p1 fun v15 h => ?_
           apply iU h <;> intro h
           ·cases h; exact (.p _)
           ·apply iU h <;> intro h
            ·refine cP h Qm p1 fun v19 h => ?_
             apply iU h <;> intro h
             ·cases h; exact (.p _)
             ·cases h; exact (.p _)
            ·cases h; exact (.p _)
          ·apply iU h <;> intro h
           ·refine cP h Qm p1 fun v23 h => ?_
            apply iU h <;> intro h
            ·cases h; exact (.p _)
            ·cases h; exact (.p _)
           ·cases h; exact (.p _)
      ·apply iU h <;> intro h
       ·cases h; exact (.p _)
       ·apply iU h <;> intro h
        ·cases h; exact (.p _)
        ·apply iU h <;> intro h
         ·refine cP h Yj p1 fun v29 h => ?_
          apply iU h <;> intro h
          ·cases h; exact (.p _)
          ·apply iU h <;> intro h
           ·refine cP h Qm p1 fun v33 h => ?_
            apply iU h <;> intro h
            ·cases h; exact (.p _)
            ·cases h; exact (.p _)
           ·cases h; exact (.p _)
         ·apply iU h <;> intro h
          ·refine cP h Qm p1 fun v37 h => ?_
           apply iU h <;> intro h
           ·cases h; exact (.p _)
           ·cases h; exact (.p _)
          ·cases h; exact (.p _)
 ·apply iU h <;> intro h
  ·cases h; exact (.p _)
  ·apply iU h <;> intro h
   ·cases h; exact (.p _)
   ·refine cP h Ul (.cons q4 .nil) fun v42 h => ?_
    apply iU h <;> intro h
    ·cases h; exact (.p _)
    ·apply iU h <;> intro h
     ·cases h; exact (.p _)
     ·refine cP h Uy p1 fun v46 h => ?_
      apply iU h <;> intro h
      ·apply iU h <;> intro h
       ·cases h; exact (.p _)
       ·apply iU h <;> intro h
        ·apply iU h <;> intro h
         ·cases h; exact (.p _)
         ·apply iU h <;> intro h
          ·cases h; exact (.p _)
          ·apply iU h <;> intro h
           ·refine cP h Yj p1 fun v54 h => ?_
            apply iU h <;> intro h
            ·cases h; exact (.p _)
            ·apply iU h <;> intro h
             ·refine cP h Qm p1 fun v58 h => ?_
              apply iU h <;> intro h
              ·cases h; exact (.p _)
              ·cases h; exact (.p _)
             ·cases h; exact (.p _)
           ·apply iU h <;> intro h
            ·refine cP h Qm p1 fun v62 h => ?_
             apply iU h <;> intro h
             ·cases h; exact (.p _)
             ·cases h; exact (.p _)
            ·cases h; exact (.p _)
        ·apply iU h <;> intro h
         ·cases h; exact (.p _)
         ·apply iU h <;> intro h
          ·refine cP h Yj p1 fun v67 h => ?_
           apply iU h <;> intro h
           ·cases h; exact (.p _)
           ·apply iU h <;> intro h
            ·refine cP h Qm p1 fun v71 h => ?_
             apply iU h <;> intro h
             ·cases h; exact (.p _)
             ·cases h; exact (.p _)
            ·cases h; exact (.p _)
          ·apply iU h <;> intro h
           ·refine cP h Qm p1 fun v75 h => ?_
            apply iU h <;> intro h
            ·cases h; exact (.p _)
            ·cases h; exact (.p _)
           ·cases h; exact (.p _)
      ·apply iU h <;> intro h
       ·apply iU h <;> intro h
        ·cases h; exact (.p _)
        ·apply iU h <;> intro h
         ·cases h; exact (.p _)
         ·apply iU h <;> intro h
          ·refine cP h Yj p1 fun v82 h => ?_
           apply iU h <;> intro h
           ·cases h; exact (.p _)
           ·apply iU h <;> intro h
            ·refine cP h Qm p1 fun v86 h => ?_
             apply iU h <;> intro h
             ·cases h; exact (.p _)
             ·cases h; exact (.p _)
            ·cases h; exact (.p _)
          ·apply iU h <;> intro h
           ·refine cP h Qm p1 fun v90 h => ?_
            apply iU h <;> intro h
            ·cases h; exact (.p _)
            ·cases h; exact (.p _)
           ·cases h; exact (.p _)
       ·apply iU h <;> intro h
        ·cases h; exact (.p _)
        ·apply iU h <;> intro h
         ·refine cP h Yj p1 fun v95 h => ?_
          apply iU h <;> intro h
          ·cases h; exact (.p _)
          ·apply iU h <;> intro h
           ·refine cP h Qm p1 fun v99 h => ?_
            apply iU h <;> intro h
            ·cases h; exact (.p _)
            ·cases h; exact (.p _)
           ·cases h; exact (.p _)
         ·apply iU h <;> intro h
          ·refine cP h Qm p1 fun v103 h => ?_
           apply iU h <;> intro h
           ·cases h; exact (.p _)
           ·cases h; exact (.p _)
          ·cases h; exact (.p _)
def Yl (rz1 : Q0 → Q0 → Option (Bool)) (N : Nat) (a : Q0) (b : Q0) : Nat → Int → Option (Bool)
 | 0, _ => none
 | n + 1, i22 =>
  cond (Q8 .lss i22 ((Q0.rows a.Items).length : Int))
  ((idx a.Items i22).bind fun y24 =>
  (idx b.Items i22).bind fun y26 =>
  (rz1 y24 y26).bind fun v28 =>
  cond (!v28)
  (some false)
  (Yl rz1 N a b n (IntKind.wrap .i64 (i22 + 1))))
  (some true)
def Vm (rz1 : Q0 → Q0 → Option (Bool)) (N : Nat) (a : Q0) (b : Q0) : Option (Bool) :=
 cond (Q8 .neq a.Kind b.Kind)
 (some false)
 (cond (Q8 .neq a.N' b.N')
 (some false)
 (cond (Q3o .neq a.Text b.Text)
 (some false)
 (cond (Q8 .neq ((Q0.rows a.Items).length : Int) ((Q0.rows b.Items).length : Int))
 (some false)
 (Yl rz1 N a b N 0))))
theorem Q1n {rz1 : Q0 → Q0 → Option (Bool)} (hx2 : ∀ {a} {b} {r}, rz1 a b = some r → Zp Tryz.prog G1 57 [.agg (Q0.cells a), .agg (Q0.cells b)] (.bool r)) {N} {a} {b} {r} (h : Vm rz1 N a b = some r) : Zp Tryz.prog G1 57 [.agg (Q0.cells a), .agg (Q0.cells b)] (.bool r) := by
 refine Q4 k57 ?_
 unfold Vm at h
 apply iU h <;> intro h
 ·cases h; exact (.p _)
 ·apply iU h <;> intro h
  ·cases h; exact (.p _)
  ·apply iU h <;> intro h
   ·cases h; exact (.p _)
   ·apply iU h <;> intro h
    ·cases h; exact (.p _)
    ·refine lpC (τ := Int) (fun i22 => (.any :: .any :: .ptr 0 0 :: .ptr 1 0 :: .any :: iI i22 :: a16 (a16 (a8 (a4 (a2 (.any :: []))))) : List AV)) (fun _ => (.cells (iI a.Kind :: iW a.N' :: iS a.Text :: .p (.slice 4 (Q0.rows a.Items)) :: []) :: .cells (iI b.Kind :: iW b.N' :: iS b.Text :: .p (.slice 4 (Q0.rows b.Items)) :: []) :: [] : List AObj)) (fun n0 i22 => Yl rz1 N a b n0 i22) (0) h (fun i => i) ⟨(rW <| rE rfl <| rE rfl <| rA <| rE rfl <| rX <| rX <| rX <| rX <| rX <| rV <| rW <| rA <| rN), (hE rfl <| hE rfl <| hN), rfl, rfl, (roE rfl <| roE rfl <| roN)⟩ fun n0 i22 h => ?_
     simp only [Yl] at h
     apply iU h <;> intro h
     ·refine Qw ?_
      refine Q0.xR h fun y24 h => ?_
      refine Q0.xR h fun y26 h => ?_
      refine cD h hx2 (.cons q4 (.cons q4 .nil)) fun v28 h => ?_
      apply iU h <;> intro h
      ·cases h; exact (.p _)
      ·show Exists _
       exact ⟨(n0, (IntKind.wrap .i64 (i22 + 1))), h, Nat.lt_succ_self _, (fun i => i), ⟨(rW <| rE rfl <| rE rfl <| rA <| rE rfl <| rX <| rX <| rX <| rX <| rX <| rV <| rW <| rA <| rN), (hE rfl <| hE rfl <| hN), rfl, rfl, (roE rfl <| roE rfl <| roN)⟩⟩
     ·cases h; exact (.p _)
def Yu : Nat → Q0 → Q0 → Option (Bool)
 | 0 => fun _ _ => none
 | N + 1 => Vm (Yu N) N
theorem Q1j {N} {a} {b} {r} (h : Yu N a b = some r) : Zp Tryz.prog G1 57 [.agg (Q0.cells a), .agg (Q0.cells b)] (.bool r) := by
 induction N generalizing a b r with
 | zero => simp [Yu] at h
 | succ N ih => exact Q1n (fun h => ih h) h
def Zg (rv : Q0 → Option (Q0)) (N : Nat) (v : Q0) : Nat → Int → (List Q0) → Option (Q0)
 | 0, _, _ => none
 | n + 1, i14, l15 =>
  cond (Q8 .lss i14 ((Q0.rows v.Items).length : Int))
  ((idx v.Items i14).bind fun y17 =>
  (rv y17).bind fun v19 =>
  cond (Nat.ble ((l15.length + 1 + 4096) * 56) 17592186044416) (Zg rv N v n (IntKind.wrap .i64 (i14 + 1)) (l15 ++ [v19])) none)
  (some (⟨v.Kind, v.N', v.Text, l15⟩ : Q0))
def Ws (rv : Q0 → Option (Q0)) (N : Nat) (v : Q0) : Option (Q0) :=
 Zg rv N v N 0 []
theorem Q1r {rv : Q0 → Option (Q0)} (hy2 : ∀ {v} {r}, rv v = some r → Zp Tryz.prog G1 76 [.agg (Q0.cells v)] (.agg (Q0.cells r))) {N} {v} {r} (h : Ws rv N v = some r) : Zp Tryz.prog G1 76 [.agg (Q0.cells v)] (.agg (Q0.cells r)) := by
 refine Q4 k76 ?_
 unfold Ws at h
 refine lpC (τ := Int × (List Q0)) (fun ⟨i14, _⟩ => (.any :: .ptr 0 0 :: .ptr 1 0 :: .ptr 2 0 :: iI i14 :: a16 (a8 (a2 ([]))) : List AV)) (fun ⟨_, l15⟩ => (.cells (iI v.Kind :: iW v.N' :: iS v.Text :: .p (.slice 4 (Q0.rows v.Items)) :: []) :: .cells (iI 0 :: iW 0 :: iS [] :: .p .nilSlice :: []) :: .cells (iI v.Kind :: iW v.N' :: iS v.Text :: .slice 4 3 0 l15.length :: []) :: .cells (Xq Q0.cells l15) :: [] : List AObj)) (fun n0 ⟨i14, l15⟩ => Zg rv N v n0 i14 l15) (0, []) h (fun i => i) ⟨(rA <| rE rfl <| rE rfl <| rE rfl <| rE rfl <| rX <| rX <| rX <| rW <| rN), (hE rfl <| hE rfl <| hC rfl (rE rfl <| rE rfl <| rE rfl <| rS <| rN) <| hV lb <| hN), rfl, rfl, (roE rfl <| roE rfl <| roE rfl <| roE (Qb _ _ _) <| roN)⟩ fun n0 ⟨i14, l15⟩ h => ?_
 simp only [Zg] at h
 apply iU h <;> intro h
 ·refine Qw ?_
  refine Q0.xR h fun y17 h => ?_
  refine cD h hy2 (.cons q4 .nil) fun v19 h => ?_
  obtain ⟨hk21, h⟩ := Qgg h
  refine Q72 (Gx (c := Q0.cells) (e := 4) (fun _ => rfl) (by simp) hk21) ?_
  refine Q2n (c := Q0.cells) [v19] rfl ?_
  show Exists _
  exact ⟨(n0, (IntKind.wrap .i64 (i14 + 1)), (l15 ++ [v19])), h, Nat.lt_succ_self _, (rho [0, 1, 2, 5]), ⟨(rA <| rE rfl <| rE rfl <| rE rfl <| rE rfl <| rX <| rX <| rX <| rW <| rN), (hE rfl <| hE rfl <| hC rfl (rE rfl <| rE rfl <| rE rfl <| rL (by simp) rfl <| rN) <| hO rfl <| hN), rfl, rfl, (roE rfl <| roE rfl <| roE rfl <| roE (Qb _ _ _) <| roN)⟩⟩
 ·obtain rfl := Ql h; exact (Frz.agg' (.cons (.p _) (.cons (.p _) (.cons (.p _) (.cons (Q0.frz_own (l := l15) rfl trivial (by simp)) .nil)))))
def Zz : Nat → Q0 → Option (Q0)
 | 0 => fun _ => none
 | N + 1 => Ws (Zz N) N
theorem Q20 {N} {v} {r} (h : Zz N v = some r) : Zp Tryz.prog G1 76 [.agg (Q0.cells v)] (.agg (Q0.cells r)) := by
 induction N generalizing v r with
 | zero => simp [Zz] at h
 | succ N ih => exact Q1r (fun h => ih h) h
theorem Q0y {rv : Q0 → Option (Q0)} (hy2 : ∀ {v} {r}, rv v = some r → Zp Tryz.prog G1 76 [.agg (Q0.cells v)] (.agg (Q0.cells r))) {N} {v} {r} (h : Ws rv N v = some r) : GC Tryz.prog G1 76 (.p (.agg (Q0.cells v)) :: []) [] (.agg [.p (.int .i64 r.Kind), .p (.int .u64 r.N'), .p (.str r.Text), .slice 4 0 0 r.Items.length]) (.cells (Xq Q0.cells r.Items) :: []) := by
 refine Q37 k76 (Nat.le_of_ble_eq_true rfl) ?_
 unfold Ws at h
 refine lpC (τ := Int × (List Q0)) (fun ⟨i14, _⟩ => (.any :: .ptr 0 0 :: .ptr 1 0 :: .ptr 2 0 :: iI i14 :: a16 (a8 (a2 ([]))) : List AV)) (fun ⟨_, l15⟩ => (.cells (iI v.Kind :: iW v.N' :: iS v.Text :: .p (.slice 4 (Q0.rows v.Items)) :: []) :: .cells (iI 0 :: iW 0 :: iS [] :: .p .nilSlice :: []) :: .cells (iI v.Kind :: iW v.N' :: iS v.Text :: .slice 4 3 0 l15.length :: []) :: .cells (Xq Q0.cells l15) :: [] : List AObj)) (fun n0 ⟨i14, l15⟩ => Zg rv N v n0 i14 l15) (0, []) h (fun i => i) ⟨(rA <| rE rfl <| rE rfl <| rE rfl <| rE rfl <| rX <| rX <| rX <| rW <| rN), (hE rfl <| hE rfl <| hC rfl (rE rfl <| rE rfl <| rE rfl <| rS <| rN) <| hV lb <| hN), rfl, rfl, (roE rfl <| roE rfl <| roE rfl <| roE (Qb _ _ _) <| roN)⟩ fun n0 ⟨i14, l15⟩ h => ?_
 simp only [Zg] at h
 apply iU h <;> intro h
 ·refine Qw ?_
  refine Q0.xR h fun y17 h => ?_
  refine cD h hy2 (.cons q4 .nil) fun v19 h => ?_
  obtain ⟨hk21, h⟩ := Qgg h
  refine Q72 (Gx (c := Q0.cells) (e := 4) (fun _ => rfl) (by simp) hk21) ?_
  refine Q2n (c := Q0.cells) [v19] rfl ?_
  show Exists _
  exact ⟨(n0, (IntKind.wrap .i64 (i14 + 1)), (l15 ++ [v19])), h, Nat.lt_succ_self _, (rho [0, 1, 2, 5]), ⟨(rA <| rE rfl <| rE rfl <| rE rfl <| rE rfl <| rX <| rX <| rX <| rW <| rN), (hE rfl <| hE rfl <| hC rfl (rE rfl <| rE rfl <| rE rfl <| rL (by simp) rfl <| rN) <| hO rfl <| hN), rfl, rfl, (roE rfl <| roE rfl <| roE rfl <| roE (Qb _ _ _) <| roN)⟩⟩
 ·obtain rfl := Ql h
  show Exists _
  exact ⟨(rho [3]), ⟨(rG (rE rfl <| rE rfl <| rE rfl <| rE rfl <| rN) <| rN), (hO rfl <| hN), rfl, rfl, (roE (Qb _ _ _) <| roN)⟩⟩
theorem Q16 {N} {v} {r} (h : Zz N v = some r) : GC Tryz.prog G1 76 (.p (.agg (Q0.cells v)) :: []) [] (.agg [.p (.int .i64 r.Kind), .p (.int .u64 r.N'), .p (.str r.Text), .slice 4 0 0 r.Items.length]) (.cells (Xq Q0.cells r.Items) :: []) := by
 cases N with
 | zero => simp [Zz] at h
 | succ N => exact Q0y (fun h => Q20 h) h
def Ym (rx1 : Q0 → Option (Q0)) (N : Nat) (v : Q0) (v1 : Q0) (c22 : Int) : Nat → Int → (List Q0) → Option (Q0)
 | 0, _, _ => none
 | n + 1, i45, l46 =>
  cond (Q8 .lss i45 ((Q0.rows v.Items).length : Int))
  ((idx v.Items i45).bind fun y48 =>
  (rx1 y48).bind fun v50 =>
  (idx (l46 : List Q0) i45).bind fun y52 =>
  Ym rx1 N v v1 c22 n (IntKind.wrap .i64 (i45 + 1)) ((l46 : List Q0).set (Int.toNat i45) v50))
  (some (⟨v1.Kind, c22, v1.Text, l46⟩ : Q0))
def Zf (rx1 : Q0 → Option (Q0)) (N : Nat) (v : Q0) (v1 : Q0) (c22 : Int) : Option (Q0) :=
 Ym rx1 N v v1 c22 N 0 v1.Items
def Yh (_N : Nat) (k2 : Int → Option (Q0)) (c9 : Int) (s25 : Bool) : Option (Q0) :=
 cond s25
 (k2 9221120237041090560)
 (k2 c9)
def Zs (rx1 : Q0 → Option (Q0)) (N : Nat) (v : Q0) (v1 : Q0) (c9 : Int) : Option (Q0) :=
 cond (Q8 .eql v.Kind 12)
 (cond (Q8 .eql (Jw .u64 v.N' 9218868437227405312) 9218868437227405312)
 (Yh N (Zf rx1 N v v1) c9 (Q8 .neq (Jw .u64 v.N' 4503599627370495) 0))
 (Yh N (Zf rx1 N v v1) c9 false))
 (Yh N (Zf rx1 N v v1) c9 false)
def Yo (_N : Nat) (k0 : Int → Option (Q0)) (v1 : Q0) (s12 : Bool) : Option (Q0) :=
 cond s12
 (k0 2143289344)
 (k0 v1.N')
def Wo (rx1 : Q0 → Option (Q0)) (N : Nat) (v : Q0) : Option (Q0) :=
 (Zz N v).bind fun v1 =>
 cond (Q8 .eql v.Kind 11)
 (cond (Q8 .eql (Jw .u64 v.N' 2139095040) 2139095040)
 (Yo N (Zs rx1 N v v1) v1 (Q8 .neq (Jw .u64 v.N' 8388607) 0))
 (Yo N (Zs rx1 N v v1) v1 false))
 (Yo N (Zs rx1 N v v1) v1 false)
theorem Q23 {rx1 : Q0 → Option (Q0)} (hy3 : ∀ {v} {r}, rx1 v = some r → Zp Tryz.prog G1 34 [.agg (Q0.cells v)] (.agg (Q0.cells r))) {N} {v} {r} (h : Wo rx1 N v = some r) : Zp Tryz.prog G1 34 [.agg (Q0.cells v)] (.agg (Q0.cells r)) := by
 refine Q4 k34 ?_
 unfold Wo at h
 refine cG h Q16 fun v1 h => ?_
 refine ⟨fun i => i, (.cells (iI v.Kind :: iW v.N' :: iS v.Text :: .p (.slice 4 (Q0.rows v.Items)) :: []) :: .cells (iI 0 :: iW 0 :: iS [] :: .p .nilSlice :: []) :: .cells (Xq Q0.cells v1.Items) :: []), .agg [iI v1.Kind, iW v1.N', iS v1.Text, .slice 4 2 0 v1.Items.length], ⟨(rF q4 <| rN), hN, rfl, rfl, roN, rfl, (fK rfl rfl <| fK rfl rfl <| fO 0 rfl rfl rfl <| fN), rfl⟩, ?_⟩
 refine Vf (σ := Int) (fun _ => (.any :: .ptr 0 0 :: .ptr 1 0 :: .ptr 3 0 :: a16 (a16 (a16 (a4 (.any :: [])))) : List AV)) (fun c9 => (.cells (iI v.Kind :: iW v.N' :: iS v.Text :: .p (.slice 4 (Q0.rows v.Items)) :: []) :: .cells (iI 0 :: iW 0 :: iS [] :: .p .nilSlice :: []) :: .cells (Xq Q0.cells v1.Items) :: .cells (iI v1.Kind :: iW c9 :: iS v1.Text :: .slice 4 2 0 v1.Items.length :: []) :: [] : List AObj)) (fun c9 => Zs rx1 N v v1 c9 = some r) (fun _ _ => lb) ?_ ?_
 ·refine Vf (σ := Bool) (fun s12 => (.any :: .ptr 0 0 :: .ptr 1 0 :: .ptr 3 0 :: a16 (.any :: .p (.bool s12) :: a16 (a16 (a2 (.any :: [])))) : List AV)) (fun _ => (.cells (iI v.Kind :: iW v.N' :: iS v.Text :: .p (.slice 4 (Q0.rows v.Items)) :: []) :: .cells (iI 0 :: iW 0 :: iS [] :: .p .nilSlice :: []) :: .cells (Xq Q0.cells v1.Items) :: .cells (iI v1.Kind :: iW v1.N' :: iS v1.Text :: .slice 4 2 0 v1.Items.length :: []) :: [] : List AObj)) (fun s12 => Yo N (Zs rx1 N v v1) v1 s12 = some r) (fun _ _ => lb) ?_ ?_
  ·apply iU h <;> intro h
   ·apply iU h <;> intro h
    ·show Exists _
     exact ⟨((Q8 .neq (Jw .u64 v.N' 8388607) 0)), h, (fun i => i), ⟨(rA <| rE rfl <| rE rfl <| rE rfl <| rX <| rX <| rA <| rE rfl <| rX <| rX <| rX <| rX <| rW <| rA <| rN), (hE rfl <| hE rfl <| hO rfl <| hE rfl <| hN), rfl, rfl, (roE rfl <| roE rfl <| roE (Qb _ _ _) <| roE rfl <| roN)⟩⟩
    ·show Exists _
     exact ⟨(false), h, (fun i => i), ⟨(rA <| rE rfl <| rE rfl <| rE rfl <| rX <| rX <| rA <| rE rfl <| rX <| rX <| rX <| rX <| rW <| rA <| rN), (hE rfl <| hE rfl <| hO rfl <| hE rfl <| hN), rfl, rfl, (roE rfl <| roE rfl <| roE (Qb _ _ _) <| roE rfl <| roN)⟩⟩
   ·show Exists _
    exact ⟨(false), h, (fun i => i), ⟨(rA <| rE rfl <| rE rfl <| rE rfl <| rX <| rX <| rA <| rE rfl <| rX <| rX <| rX <| rX <| rW <| rA <| rN), (hE rfl <| hE rfl <| hO rfl <| hE rfl <| hN), rfl, rfl, (roE rfl <| roE rfl <| roE (Qb _ _ _) <| roE rfl <| roN)⟩⟩
  rintro s12 h
  dsimp only [Yo] at h
  apply iU h <;> intro h
  ·show Exists _
   exact ⟨(2143289344), h, (fun i => i), ⟨(rA <| rE rfl <| rE rfl <| rE rfl <| rX <| rX <| rX <| rX <| rX <| rX <| rV <| rA <| rN), (hE rfl <| hE rfl <| hO rfl <| hE rfl <| hN), rfl, rfl, (roE rfl <| roE rfl <| roE (Qb _ _ _) <| roE rfl <| roN)⟩⟩
  ·show Exists _
   exact ⟨(v1.N'), h, (fun i => i), ⟨(rA <| rE rfl <| rE rfl <| rE rfl <| rX <| rX <| rX <| rX <| rX <| rX <| rV <| rA <| rN), (hE rfl <| hE rfl <| hO rfl <| hE rfl <| hN), rfl, rfl, (roE rfl <| roE rfl <| roE (Qb _ _ _) <| roE rfl <| roN)⟩⟩
 rintro c9 h
 dsimp only [Zs] at h
 refine Vf (σ := Int) (fun _ => (.any :: .ptr 0 0 :: .ptr 1 0 :: .ptr 3 0 :: a16 (a16 (a16 (a4 (.any :: [])))) : List AV)) (fun c22 => (.cells (iI v.Kind :: iW v.N' :: iS v.Text :: .p (.slice 4 (Q0.rows v.Items)) :: []) :: .cells (iI 0 :: iW 0 :: iS [] :: .p .nilSlice :: []) :: .cells (Xq Q0.cells v1.Items) :: .cells (iI v1.Kind :: iW c22 :: iS v1.Text :: .slice 4 2 0 v1.Items.length :: []) :: [] : List AObj)) (fun c22 => Zf rx1 N v v1 c22 = some r) (fun _ _ => lb) ?_ ?_
 ·refine Vf (σ := Bool) (fun s25 => (.any :: .ptr 0 0 :: .ptr 1 0 :: .ptr 3 0 :: a16 (a16 (.any :: .p (.bool s25) :: a16 (a2 (.any :: [])))) : List AV)) (fun _ => (.cells (iI v.Kind :: iW v.N' :: iS v.Text :: .p (.slice 4 (Q0.rows v.Items)) :: []) :: .cells (iI 0 :: iW 0 :: iS [] :: .p .nilSlice :: []) :: .cells (Xq Q0.cells v1.Items) :: .cells (iI v1.Kind :: iW c9 :: iS v1.Text :: .slice 4 2 0 v1.Items.length :: []) :: [] : List AObj)) (fun s25 => Yh N (Zf rx1 N v v1) c9 s25 = some r) (fun _ _ => lb) ?_ ?_
  ·apply iU h <;> intro h
   ·apply iU h <;> intro h
    ·show Exists _
     exact ⟨((Q8 .neq (Jw .u64 v.N' 4503599627370495) 0)), h, (fun i => i), ⟨(rA <| rE rfl <| rE rfl <| rE rfl <| rX <| rX <| rX <| rX <| rA <| rE rfl <| rX <| rX <| rW <| rA <| rN), (hE rfl <| hE rfl <| hO rfl <| hE rfl <| hN), rfl, rfl, (roE rfl <| roE rfl <| roE (Qb _ _ _) <| roE rfl <| roN)⟩⟩
    ·show Exists _
     exact ⟨(false), h, (fun i => i), ⟨(rA <| rE rfl <| rE rfl <| rE rfl <| rX <| rX <| rX <| rX <| rA <| rE rfl <| rX <| rX <| rW <| rA <| rN), (hE rfl <| hE rfl <| hO rfl <| hE rfl <| hN), rfl, rfl, (roE rfl <| roE rfl <| roE (Qb _ _ _) <| roE rfl <| roN)⟩⟩
   ·show Exists _
    exact ⟨(false), h, (fun i => i), ⟨(rA <| rE rfl <| rE rfl <| rE rfl <| rX <| rX <| rX <| rX <| rA <| rE rfl <| rX <| rX <| rW <| rA <| rN), (hE rfl <| hE rfl <| hO rfl <| hE rfl <| hN), rfl, rfl, (roE rfl <| roE rfl <| roE (Qb _ _ _) <| roE rfl <| roN)⟩⟩
  rintro s25 h
  dsimp only [Yh] at h
  apply iU h <;> intro h
  ·show Exists _
   exact ⟨(9221120237041090560), h, (fun i => i), ⟨(rA <| rE rfl <| rE rfl <| rE rfl <| rX <| rX <| rX <| rX <| rX <| rX <| rV <| rA <| rN), (hE rfl <| hE rfl <| hO rfl <| hE rfl <| hN), rfl, rfl, (roE rfl <| roE rfl <| roE (Qb _ _ _) <| roE rfl <| roN)⟩⟩
  ·show Exists _
   exact ⟨(c9), h, (fun i => i), ⟨(rA <| rE rfl <| rE rfl <| rE rfl <| rX <| rX <| rX <| rX <| rX <| rX <| rV <| rA <| rN), (hE rfl <| hE rfl <| hO rfl <| hE rfl <| hN), rfl, rfl, (roE rfl <| roE rfl <| roE (Qb _ _ _) <| roE rfl <| roN)⟩⟩
 rintro c22 h
 dsimp only [Zf] at h
 refine lpC (τ := Int × (List Q0)) (fun ⟨i45, _⟩ => (.any :: .ptr 0 0 :: .ptr 1 0 :: .ptr 3 0 :: iI i45 :: a16 (a16 (a16 (a4 ([])))) : List AV)) (fun ⟨_, l46⟩ => (.cells (iI v.Kind :: iW v.N' :: iS v.Text :: .p (.slice 4 (Q0.rows v.Items)) :: []) :: .cells (iI 0 :: iW 0 :: iS [] :: .p .nilSlice :: []) :: .dead :: .cells (iI v1.Kind :: iW c22 :: iS v1.Text :: .slice 4 4 0 l46.length :: []) :: .cells (Xq Q0.cells l46) :: [] : List AObj)) (fun n4 ⟨i45, l46⟩ => Ym rx1 N v v1 c22 n4 i45 l46) (0, v1.Items) h (rho [0, 1, 2, 3, 2]) ⟨(rA <| rE rfl <| rE rfl <| rE rfl <| rE rfl <| rX <| rX <| rX <| rX <| rX <| rX <| rV <| rN), (hE rfl <| hE rfl <| hD <| hE rfl <| hO rfl <| hN), rfl, rfl, (roE rfl <| roE rfl <| roE rfl <| roE rfl <| roE (Qb _ _ _) <| roN)⟩ fun n4 ⟨i45, l46⟩ h => ?_
 simp only [Ym] at h
 apply iU h <;> intro h
 ·refine Qw ?_
  refine Q0.xR h fun y48 h => ?_
  refine cD h hy3 (.cons q4 .nil) fun v50 h => ?_
  obtain ⟨y52, hy53, h⟩ := Q5w h
  refine Q72 (Qba hy53 (by simp)) ?_
  refine Q72 (Qde (c := Q0.cells) (e := 4) (fun _ => rfl) hy53 (off := 0) (by omega) rfl (by decide)) ?_
  refine Qd4 (c := Q0.cells) (e := 4) (fun _ => rfl) hy53 v50 (off := 0) (by first | omega | (simp only [Jw, orI, Qsj, Qan, Ut, Q1d]; omega)) rfl (by simp) ?_
  show Exists _
  exact ⟨(n4, (IntKind.wrap .i64 (i45 + 1)), ((l46 : List Q0).set (Int.toNat i45) v50)), h, Nat.lt_succ_self _, (fun i => i), ⟨(rA <| rE rfl <| rE rfl <| rE rfl <| rE rfl <| rX <| rX <| rX <| rX <| rX <| rX <| rV <| rN), (hE rfl <| hE rfl <| hD <| hC rfl (rE rfl <| rE rfl <| rE rfl <| rL (by simp) rfl <| rN) <| hO rfl <| hN), rfl, rfl, (roE rfl <| roE rfl <| roE rfl <| roE rfl <| roE (Qb _ _ _) <| roN)⟩⟩
 ·obtain rfl := Ql h; exact (Frz.agg' (.cons (.p _) (.cons (.p _) (.cons (.p _) (.cons (Q0.frz_own (l := l46) rfl trivial (by simp)) .nil)))))
def Y2 : Nat → Q0 → Option (Q0)
 | 0 => fun _ => none
 | N + 1 => Wo (Y2 N) N
theorem Q25 {N} {v} {r} (h : Y2 N v = some r) : Zp Tryz.prog G1 34 [.agg (Q0.cells v)] (.agg (Q0.cells r)) := by
 induction N generalizing v r with
 | zero => simp [Y2] at h
 | succ N ih => exact Q23 (fun h => ih h) h
def Xu (N : Nat) (v : Q0) : Option (Bool) :=
 (Y2 N v).bind fun v1 =>
 (Yu N v v1).bind fun v3 =>
 some v3
theorem Q0m {N} {v} {r} (h : Xu N v = some r) : Zp Tryz.prog G1 14 [.agg (Q0.cells v)] (.bool r) := by
 refine Q4 k14 ?_
 unfold Xu at h
 refine Qw ?_
 refine cD h Q25 (.cons q4 .nil) fun v1 h => ?_
 refine cD h Q1j (.cons q4 p1) fun v3 h => ?_
 cases h; exact (.p _)
def Xf (_N : Nat) : Option (List Qh) :=
 some [(⟨64, 1, 0, false, false⟩ : Qh), (⟨65, 2, 0, false, false⟩ : Qh), (⟨66, 2, 0, false, false⟩ : Qh), (⟨86, 2, 1, false, false⟩ : Qh), (⟨80, 3, 1, false, false⟩ : Qh), (⟨96, 4, 2, false, false⟩ : Qh), (⟨67, 5, 0, false, false⟩ : Qh), (⟨82, 5, 1, false, false⟩ : Qh), (⟨112, 5, 4, false, false⟩ : Qh), (⟨68, 6, 0, false, false⟩ : Qh), (⟨83, 6, 1, false, false⟩ : Qh), (⟨128, 6, 8, false, false⟩ : Qh), (⟨81, 7, 1, false, false⟩ : Qh), (⟨97, 8, 2, false, false⟩ : Qh), (⟨84, 9, 1, false, false⟩ : Qh), (⟨113, 9, 4, false, false⟩ : Qh), (⟨85, 10, 1, false, false⟩ : Qh), (⟨129, 10, 8, false, false⟩ : Qh), (⟨114, 11, 4, false, false⟩ : Qh), (⟨130, 12, 8, false, false⟩ : Qh), (⟨116, 13, 4, false, false⟩ : Qh), (⟨132, 14, 8, false, false⟩ : Qh), (⟨148, 15, 16, false, false⟩ : Qh), (⟨115, 16, 4, false, false⟩ : Qh), (⟨131, 17, 8, false, false⟩ : Qh), (⟨152, 18, 16, false, false⟩ : Qh), (⟨160, 19, 1, true, false⟩ : Qh), (⟨176, 19, 4, true, false⟩ : Qh), (⟨161, 20, 1, true, false⟩ : Qh), (⟨177, 20, 4, true, false⟩ : Qh), (⟨163, 21, 1, true, false⟩ : Qh), (⟨179, 21, 4, true, false⟩ : Qh), (⟨69, 22, 0, false, true⟩ : Qh), (⟨192, 22, 1, true, true⟩ : Qh), (⟨208, 22, 4, true, true⟩ : Qh), (⟨193, 23, 1, true, true⟩ : Qh), (⟨209, 23, 4, true, true⟩ : Qh), (⟨224, 24, 1, true, true⟩ : Qh), (⟨240, 24, 4, true, true⟩ : Qh), (⟨0, 25, 0, false, true⟩ : Qh)]
theorem Uw {N} {r} (h : Xf N = some r) : Zp Tryz.prog G1 58 [] (.slice 5 (U2 Qh.cells r)) := by
 refine Q4 k58 ?_
 unfold Xf at h
 obtain rfl := Ql h; exact (frz_own (c := Qh.cells) (l := ([(⟨64, 1, 0, false, false⟩ : Qh), (⟨65, 2, 0, false, false⟩ : Qh), (⟨66, 2, 0, false, false⟩ : Qh), (⟨86, 2, 1, false, false⟩ : Qh), (⟨80, 3, 1, false, false⟩ : Qh), (⟨96, 4, 2, false, false⟩ : Qh), (⟨67, 5, 0, false, false⟩ : Qh), (⟨82, 5, 1, false, false⟩ : Qh), (⟨112, 5, 4, false, false⟩ : Qh), (⟨68, 6, 0, false, false⟩ : Qh), (⟨83, 6, 1, false, false⟩ : Qh), (⟨128, 6, 8, false, false⟩ : Qh), (⟨81, 7, 1, false, false⟩ : Qh), (⟨97, 8, 2, false, false⟩ : Qh), (⟨84, 9, 1, false, false⟩ : Qh), (⟨113, 9, 4, false, false⟩ : Qh), (⟨85, 10, 1, false, false⟩ : Qh), (⟨129, 10, 8, false, false⟩ : Qh), (⟨114, 11, 4, false, false⟩ : Qh), (⟨130, 12, 8, false, false⟩ : Qh), (⟨116, 13, 4, false, false⟩ : Qh), (⟨132, 14, 8, false, false⟩ : Qh), (⟨148, 15, 16, false, false⟩ : Qh), (⟨115, 16, 4, false, false⟩ : Qh), (⟨131, 17, 8, false, false⟩ : Qh), (⟨152, 18, 16, false, false⟩ : Qh), (⟨160, 19, 1, true, false⟩ : Qh), (⟨176, 19, 4, true, false⟩ : Qh), (⟨161, 20, 1, true, false⟩ : Qh), (⟨177, 20, 4, true, false⟩ : Qh), (⟨163, 21, 1, true, false⟩ : Qh), (⟨179, 21, 4, true, false⟩ : Qh), (⟨69, 22, 0, false, true⟩ : Qh), (⟨192, 22, 1, true, true⟩ : Qh), (⟨208, 22, 4, true, true⟩ : Qh), (⟨193, 23, 1, true, true⟩ : Qh), (⟨209, 23, 4, true, true⟩ : Qh), (⟨224, 24, 1, true, true⟩ : Qh), (⟨240, 24, 4, true, true⟩ : Qh), (⟨0, 25, 0, false, true⟩ : Qh)] : List Qh)) (fun _ => rfl) rfl trivial (by simp))
def Zn (N : Nat) (kind : Int) (v1 : List Qh) : Nat → Int → (List Int) → Option (List Int)
 | 0, _, _ => none
 | n + 1, i18, l19 =>
  cond (Q8 .lss i18 ((U2 Qh.cells v1).length : Int))
  ((idx v1 i18).bind fun y21 =>
  cond (Q8 .eql y21.Kind kind)
  ((idx v1 i18).bind fun y24 =>
  cond (Nat.ble ((l19.length + 1 + 4096) * 8) 17592186044416) (Zn N kind v1 n (IntKind.wrap .i64 (i18 + 1)) (l19 ++ [y24.Code])) none)
  (Zn N kind v1 n (IntKind.wrap .i64 (i18 + 1)) l19))
  (some l19)
def W4 (N : Nat) (kind : Int) : Option (List Int) :=
 (Xf N).bind fun v1 =>
 Zn N kind v1 N 0 []
theorem Q0q {N} {kind} {r} (h : W4 N kind = some r) : Zp Tryz.prog G1 15 [.int .i64 kind] (.slice 1 (U2 (cI .i64) r)) := by
 refine Q4 k15 ?_
 unfold W4 at h
 refine cP h Uw p0 fun v1 h => ?_
 refine lpC (τ := Int × (List Int)) (fun ⟨i18, l19⟩ => (iI kind :: .any :: .any :: .slice 1 0 0 l19.length :: .p (.slice 5 (U2 Qh.cells v1)) :: iI i18 :: a16 (a4 (a2 (.any :: []))) : List AV)) (fun ⟨_, l19⟩ => (.cells (Xq (cI .i64) l19) :: [] : List AObj)) (fun n0 ⟨i18, l19⟩ => Zn N kind v1 n0 i18 l19) (0, []) h (fun i => i) ⟨(rE rfl <| rW <| rS <| rE rfl <| rE rfl <| rX <| rX <| rV <| rW <| rA <| rN), (hV lb <| hN), rfl, rfl, (roE (Qb _ _ _) <| roN)⟩ fun n0 ⟨i18, l19⟩ h => ?_
 simp only [Zn] at h
 apply iU h <;> intro h
 ·refine xR h fun y21 h => ?_
  apply iU h <;> intro h
  ·refine xR h fun y24 h => ?_
   obtain ⟨hk26, h⟩ := Qgg h
   refine Q72 (Gx (c := (cI .i64)) (e := 1) (fun _ => rfl) (by simp) hk26) ?_
   refine Q2n (c := (cI .i64)) [y24.Code] rfl ?_
   show Exists _
   exact ⟨(n0, (IntKind.wrap .i64 (i18 + 1)), (l19 ++ [y24.Code])), h, Nat.lt_succ_self _, (rho [2]), ⟨(rE rfl <| rW <| rL (by simp) rfl <| rE rfl <| rE rfl <| rX <| rX <| rV <| rW <| rA <| rN), (hO rfl <| hN), rfl, rfl, (roE (Qb _ _ _) <| roN)⟩⟩
  ·show Exists _
   exact ⟨(n0, (IntKind.wrap .i64 (i18 + 1)), l19), h, Nat.lt_succ_self _, (fun i => i), ⟨(rE rfl <| rW <| rE rfl <| rE rfl <| rE rfl <| rX <| rX <| rV <| rW <| rA <| rN), (hO rfl <| hN), rfl, rfl, (roE (Qb _ _ _) <| roN)⟩⟩
 ·obtain rfl := Ql h; exact (frz_own (c := (cI .i64)) (l := (l19 : List Int)) (fun _ => rfl) rfl trivial (by simp))
def Xb (N : Nat) (code : Int) (v1 : List Qh) : Nat → Int → Option (Qh × Bool)
 | 0, _ => none
 | n + 1, i16 =>
  cond (Q8 .lss i16 ((U2 Qh.cells v1).length : Int))
  ((idx v1 i16).bind fun y18 =>
  cond (Q8 .eql y18.Code code)
  ((idx v1 i16).bind fun y21 =>
  some (y21, true))
  (Xb N code v1 n (IntKind.wrap .i64 (i16 + 1))))
  (some ((⟨0, 0, 0, false, false⟩ : Qh), false))
def Zo (N : Nat) (code : Int) : Option (Qh × Bool) :=
 (Xf N).bind fun v1 =>
 Xb N code v1 N 0
theorem Xc {N} {code} {r} (h : Zo N code = some r) : Zp Tryz.prog G1 60 [.int .i64 code] (.tuple [.agg (Qh.cells r.1), .bool r.2]) := by
 refine Q4 k60 ?_
 unfold Zo at h
 refine cP h Uw p0 fun v1 h => ?_
 refine lpC (τ := Int) (fun i16 => (iI code :: .any :: .ptr 0 0 :: .any :: .p (.slice 5 (U2 Qh.cells v1)) :: iI i16 :: a16 (a2 (.any :: [])) : List AV)) (fun _ => (.cells (iI 0 :: iI 0 :: iI 0 :: .p (.bool false) :: .p (.bool false) :: []) :: [] : List AObj)) (fun n0 i16 => Xb N code v1 n0 i16) (0) h (fun i => i) ⟨(rE rfl <| rA <| rE rfl <| rA <| rE rfl <| rE rfl <| rX <| rX <| rW <| rA <| rN), (hE rfl <| hN), rfl, rfl, (roE rfl <| roN)⟩ fun n0 i16 h => ?_
 simp only [Xb] at h
 apply iU h <;> intro h
 ·refine xR h fun y18 h => ?_
  apply iU h <;> intro h
  ·refine xR h fun y21 h => ?_
   obtain rfl := Ql h; exact (Frz.tuple' (.cons (Frz.agg' p5) p1))
  ·show Exists _
   exact ⟨(n0, (IntKind.wrap .i64 (i16 + 1))), h, Nat.lt_succ_self _, (fun i => i), ⟨(rE rfl <| rA <| rE rfl <| rA <| rE rfl <| rE rfl <| rX <| rX <| rW <| rA <| rN), (hE rfl <| hN), rfl, rfl, (roE rfl <| roN)⟩⟩
 ·obtain rfl := Ql h; exact (Frz.tuple' (.cons (Frz.agg' p5) p1))
def Wp (N : Nat) (code : Int) (v : Q0) : Option (Bool) :=
 (Zo N code).bind fun v1 =>
 cond (!v1.2)
 (some false)
 (cond (Q8 .neq v1.1.Kind v.Kind)
 (some false)
 ((Qj N v).bind fun v5 =>
 cond (Q8 .neq v5 0)
 (some false)
 (cond (Q8 .eql code 65)
 (some (Q8 .eql v.N' 1))
 (cond (Q8 .eql v1.1.Width 0)
 (some (Q8 .eql v.N' 0))
 (cond v1.1.Sized
 (cond (Q8 .eql v1.1.Width 1)
 (some (Q8 .lss (v.Text.length : Int) 256))
 (cond (Q8 .eql code 82)
 (some (Q8 .lss v.N' 256))
 (cond (Q8 .eql code 83)
 (some (Q8 .lss v.N' 256))
 (cond (Q8 .eql code 84)
 ((Z8 N v.N' 8).bind fun v15 =>
 some v15)
 (cond (Q8 .eql code 85)
 ((Z8 N v.N' 8).bind fun v18 =>
 some v18)
 (some true))))))
 (cond (Q8 .eql code 82)
 (some (Q8 .lss v.N' 256))
 (cond (Q8 .eql code 83)
 (some (Q8 .lss v.N' 256))
 (cond (Q8 .eql code 84)
 ((Z8 N v.N' 8).bind fun v23 =>
 some v23)
 (cond (Q8 .eql code 85)
 ((Z8 N v.N' 8).bind fun v26 =>
 some v26)
 (some true))))))))))
theorem Q18 {N} {code} {v} {r} (h : Wp N code v = some r) : Zp Tryz.prog G1 59 [.int .i64 code, .agg (Q0.cells v)] (.bool r) := by
 refine Q4 k59 ?_
 unfold Wp at h
 refine cP h Xc p1 fun v1 h => ?_
 apply iU h <;> intro h
 ·cases h; exact (.p _)
 ·apply iU h <;> intro h
  ·cases h; exact (.p _)
  ·refine cP h Z9 (.cons q4 .nil) fun v5 h => ?_
   apply iU h <;> intro h
   ·cases h; exact (.p _)
   ·apply iU h <;> intro h
    ·cases h; exact (.p _)
    ·apply iU h <;> intro h
     ·cases h; exact (.p _)
     ·apply iU h <;> intro h
      ·apply iU h <;> intro h
       ·cases h; exact (.p _)
       ·apply iU h <;> intro h
        ·cases h; exact (.p _)
        ·apply iU h <;> intro h
         ·cases h; exact (.p _)
         ·apply iU h <;> intro h
          ·refine cP h X5 p2 fun v15 h => ?_
           cases h; exact (.p _)
          ·apply iU h <;> intro h
           ·refine cP h X5 p2 fun v18 h => ?_
            cases h; exact (.p _)
           ·cases h; exact (.p _)
      ·apply iU h <;> intro h
       ·cases h; exact (.p _)
       ·apply iU h <;> intro h
        ·cases h; exact (.p _)
        ·apply iU h <;> intro h
         ·refine cP h X5 p2 fun v23 h => ?_
          cases h; exact (.p _)
         ·apply iU h <;> intro h
          ·refine cP h X5 p2 fun v26 h => ?_
           cases h; exact (.p _)
          ·cases h; exact (.p _)
def X2 (N : Nat) (width : Int) : Nat → Int → (List UInt8) → Int → Option (List UInt8)
 | 0, _, _, _ => none
 | n + 1, n8, out9, i10 =>
  cond (Q8 .lss i10 width)
  (cond (Nat.ble ([UInt8.ofNat (IntKind.wrap .u8 n8).toNat].length + out9.length) 4611686018427387904) (X2 N width n (Q1d .u64 n8 8) ([UInt8.ofNat (IntKind.wrap .u8 n8).toNat] ++ out9) (IntKind.wrap .i64 (i10 + 1))) none)
  (some out9)
def Xz (N : Nat) (n_0 : Int) (width : Int) : Option (List UInt8) :=
 X2 N width N n_0 [] 0
theorem Jl {N} {n_0} {width} {r} (h : Xz N n_0 width = some r) : Zp Tryz.prog G1 31 [.int .u64 n_0, .int .i64 width] (.str r) := by
 refine Q4 k31 ?_
 unfold Xz at h
 refine lpC (τ := Int × (List UInt8) × Int) (fun ⟨n8, out9, i10⟩ => (iW n8 :: iI width :: a2 (.any :: iS out9 :: iI i10 :: a8 (a4 (a2 ([])))) : List AV)) (fun ⟨_, _, _⟩ => ([] : List AObj)) (fun n0 ⟨n8, out9, i10⟩ => X2 N width n0 n8 out9 i10) (n_0, [], 0) h (fun i => i) ⟨(rE rfl <| rE rfl <| rW <| rA <| rE rfl <| rE rfl <| rX <| rV <| rW <| rN), (hN), rfl, rfl, (roN)⟩ fun n0 ⟨n8, out9, i10⟩ h => ?_
 simp only [X2] at h
 apply iU h <;> intro h
 ·refine kU h fun h => ?_
  show Exists _
  exact ⟨(n0, (Q1d .u64 n8 8), ([UInt8.ofNat (IntKind.wrap .u8 n8).toNat] ++ out9), (IntKind.wrap .i64 (i10 + 1))), h, Nat.lt_succ_self _, (fun i => i), ⟨(rE rfl <| rE rfl <| rW <| rA <| rE rfl <| rE rfl <| rX <| rV <| rW <| rN), (hN), rfl, rfl, (roN)⟩⟩
 ·cases h; exact (.p _)
def V6 (N : Nat) (code : Int) (v : Q0) : Option ((List UInt8) × Int) :=
 (Qj N v).bind fun v1 =>
 cond (Q8 .neq v1 0)
 (some ([], v1))
 ((Wp N code v).bind fun v4 =>
 cond (!v4)
 (some ([], 2))
 ((Zo N code).bind fun v7 =>
 cond v7.1.Sized
 ((Xz N (IntKind.wrap .u64 (v.Text.length : Int)) v7.1.Width).bind fun v10 =>
 cond (Nat.ble (v10.length + v.Text.length) 4611686018427387904) (some ((v10 ++ v.Text), 0)) none)
 (cond (Q8 .eql v7.1.Width 16)
 (some (v.Text, 0))
 ((Xz N v.N' v7.1.Width).bind fun v14 =>
 some (v14, 0)))))
theorem Q2d {N} {code} {v} {r} (h : V6 N code v = some r) : Zp Tryz.prog G1 16 [.int .i64 code, .agg (Q0.cells v)] (.tuple [.str r.1, .int .i64 r.2]) := by
 refine Q4 k16 ?_
 unfold V6 at h
 refine cP h Z9 (.cons q4 .nil) fun v1 h => ?_
 apply iU h <;> intro h
 ·obtain rfl := Ql h; exact u2
 ·refine cP h Q18 (.cons (.p _) (.cons q4 .nil)) fun v4 h => ?_
  apply iU h <;> intro h
  ·obtain rfl := Ql h; exact u2
  ·refine cP h Xc p1 fun v7 h => ?_
   apply iU h <;> intro h
   ·refine Qw ?_
    refine cD h Jl p2 fun v10 h => ?_
    refine kU h fun h => ?_
    obtain rfl := Ql h; exact u2
   ·apply iU h <;> intro h
    ·obtain rfl := Ql h; exact u2
    ·refine cP h Jl p2 fun v14 h => ?_
     obtain rfl := Ql h; exact u2
def Zy (N : Nat) (s_0 : List UInt8) : Nat → Int → Int → Option (Int)
 | 0, _, _ => none
 | n + 1, n9, i10 =>
  cond (Q8 .lss i10 (s_0.length : Int))
  ((idx s_0 i10).bind fun b12 =>
  Zy N s_0 n (orI .u64 (Ut .u64 n9 8) (IntKind.wrap .u64 (b12.toNat : Int))) (IntKind.wrap .i64 (i10 + 1)))
  (some n9)
def Zk (N : Nat) (s_0 : List UInt8) : Option (Int) :=
 Zy N s_0 N 0 0
theorem W2 {N} {s_0} {r} (h : Zk N s_0 = some r) : Zp Tryz.prog G1 82 [.str s_0] (.int .u64 r) := by
 refine Q4 k82 ?_
 unfold Zk at h
 refine lpC (τ := Int × Int) (fun ⟨n9, i10⟩ => (iS s_0 :: .any :: .any :: iW n9 :: iI i10 :: a8 (a4 (a2 ([]))) : List AV)) (fun ⟨_, _⟩ => ([] : List AObj)) (fun n0 ⟨n9, i10⟩ => Zy N s_0 n0 n9 i10) (0, 0) h (fun i => i) ⟨(rE rfl <| rW <| rE rfl <| rE rfl <| rX <| rV <| rW <| rN), (hN), rfl, rfl, (roN)⟩ fun n0 ⟨n9, i10⟩ h => ?_
 simp only [Zy] at h
 apply iU h <;> intro h
 ·refine xB h fun b12 h => ?_
  show Exists _
  exact ⟨(n0, (orI .u64 (Ut .u64 n9 8) (IntKind.wrap .u64 (b12.toNat : Int))), (IntKind.wrap .i64 (i10 + 1))), h, Nat.lt_succ_self _, (fun i => i), ⟨(rE rfl <| rW <| rE rfl <| rE rfl <| rX <| rV <| rW <| rN), (hN), rfl, rfl, (roN)⟩⟩
 ·cases h; exact (.p _)
def W3 (N : Nat) (n_0 : Int) (kind : Int) (width : Int) : Option (Int) :=
 (Qf N kind).bind fun v1 =>
 cond (Q8 .lss v1 0)
 (cond (decide (0 ≤ (IntKind.wrap .u64 (IntKind.wrap .i64 ((IntKind.wrap .i64 (8 * width)) - 1))))) (cond (Q8 .geq n_0 (Ut .u64 1 (IntKind.wrap .u64 (IntKind.wrap .i64 ((IntKind.wrap .i64 (8 * width)) - 1)))))
 (some (IntKind.wrap .u64 ((IntKind.wrap .u64 (n_0 - (Ut .u64 1 (IntKind.wrap .u64 (IntKind.wrap .i64 ((IntKind.wrap .i64 (8 * width)) - 1)))))) - (Ut .u64 1 (IntKind.wrap .u64 (IntKind.wrap .i64 ((IntKind.wrap .i64 (8 * width)) - 1)))))))
 (some n_0)) none)
 (cond (Q8 .eql kind 10)
 (cond (decide (0 ≤ (IntKind.wrap .u64 (IntKind.wrap .i64 ((IntKind.wrap .i64 (8 * width)) - 1))))) (cond (Q8 .geq n_0 (Ut .u64 1 (IntKind.wrap .u64 (IntKind.wrap .i64 ((IntKind.wrap .i64 (8 * width)) - 1)))))
 (some (IntKind.wrap .u64 ((IntKind.wrap .u64 (n_0 - (Ut .u64 1 (IntKind.wrap .u64 (IntKind.wrap .i64 ((IntKind.wrap .i64 (8 * width)) - 1)))))) - (Ut .u64 1 (IntKind.wrap .u64 (IntKind.wrap .i64 ((IntKind.wrap .i64 (8 * width)) - 1)))))))
 (some n_0)) none)
 (some n_0))
theorem Q10 {N} {n_0} {kind} {width} {r} (h : W3 N n_0 kind width = some r) : Zp Tryz.prog G1 119 [.int .u64 n_0, .int .i64 kind, .int .i64 width] (.int .u64 r) := by
 refine Q4 Qv4 ?_
 unfold W3 at h
 refine cP h J7 p1 fun v1 h => ?_
 apply iU h <;> intro h
 ·refine kU h fun h => ?_
  apply iU h <;> intro h
  ·cases h; exact (.p _)
  ·cases h; exact (.p _)
 ·apply iU h <;> intro h
  ·refine kU h fun h => ?_
   apply iU h <;> intro h
   ·cases h; exact (.p _)
   ·cases h; exact (.p _)
  ·cases h; exact (.p _)
def V7 (N : Nat) (code : Int) (s_1 : List UInt8) : Option (Q0 × Int × Int) :=
 (Zo N code).bind fun v1 =>
 cond (!v1.2)
 (some ((⟨0, 0, [], []⟩ : Q0), 0, 8))
 (cond v1.1.Items
 (some ((⟨0, 0, [], []⟩ : Q0), 0, 8))
 (cond (Q8 .lss (s_1.length : Int) v1.1.Width)
 (some ((⟨0, 0, [], []⟩ : Q0), 0, 3))
 (cond v1.1.Sized
 (cond (decide (0 ≤ v1.1.Width)) (cond (Nat.ble 0 v1.1.Width.toNat && Nat.ble v1.1.Width.toNat s_1.length) ((Zk N ((s_1.take v1.1.Width.toNat).drop 0)).bind fun v9 =>
 cond (Q8 .gtr v9 (IntKind.wrap .u64 (IntKind.wrap .i64 ((s_1.length : Int) - v1.1.Width))))
 (some ((⟨0, 0, [], []⟩ : Q0), 0, 3))
 (cond (decide (0 ≤ (IntKind.wrap .i64 (v1.1.Width + (IntKind.wrap .i64 v9))))) (cond (Nat.ble v1.1.Width.toNat ((IntKind.wrap .i64 (v1.1.Width + (IntKind.wrap .i64 v9))).toNat) && Nat.ble ((IntKind.wrap .i64 (v1.1.Width + (IntKind.wrap .i64 v9))).toNat) s_1.length) ((Qj N (⟨v1.1.Kind, 0, ((s_1.take ((IntKind.wrap .i64 (v1.1.Width + (IntKind.wrap .i64 v9))).toNat)).drop v1.1.Width.toNat), []⟩ : Q0)).bind fun v14 =>
 cond (Q8 .eql v14 2)
 (some ((⟨0, 0, [], []⟩ : Q0), 0, 5))
 (cond (Q8 .neq v14 0)
 (some ((⟨0, 0, [], []⟩ : Q0), 0, v14))
 (some ((⟨v1.1.Kind, 0, ((s_1.take ((IntKind.wrap .i64 (v1.1.Width + (IntKind.wrap .i64 v9))).toNat)).drop v1.1.Width.toNat), []⟩ : Q0), (IntKind.wrap .i64 (v1.1.Width + (IntKind.wrap .i64 v9))), 0)))) none) none)) none) none)
 (cond (Q8 .eql v1.1.Width 16)
 (cond (Nat.ble 0 16 && Nat.ble 16 s_1.length) ((Qj N (⟨v1.1.Kind, 0, ((s_1.take 16).drop 0), []⟩ : Q0)).bind fun v20 =>
 cond (Q8 .eql v20 2)
 (some ((⟨0, 0, [], []⟩ : Q0), 0, 5))
 (cond (Q8 .neq v20 0)
 (some ((⟨0, 0, [], []⟩ : Q0), 0, v20))
 (some ((⟨v1.1.Kind, 0, ((s_1.take 16).drop 0), []⟩ : Q0), v1.1.Width, 0)))) none)
 (cond (Q8 .eql code 65)
 ((Qj N (⟨v1.1.Kind, 1, [], []⟩ : Q0)).bind fun v25 =>
 cond (Q8 .eql v25 2)
 (some ((⟨0, 0, [], []⟩ : Q0), 0, 5))
 (cond (Q8 .neq v25 0)
 (some ((⟨0, 0, [], []⟩ : Q0), 0, v25))
 (some ((⟨v1.1.Kind, 1, [], []⟩ : Q0), v1.1.Width, 0))))
 (cond (Q8 .gtr v1.1.Width 0)
 (cond (decide (0 ≤ v1.1.Width)) (cond (Nat.ble 0 v1.1.Width.toNat && Nat.ble v1.1.Width.toNat s_1.length) ((Zk N ((s_1.take v1.1.Width.toNat).drop 0)).bind fun v32 =>
 (W3 N v32 v1.1.Kind v1.1.Width).bind fun v34 =>
 (Qj N (⟨v1.1.Kind, v34, [], []⟩ : Q0)).bind fun v36 =>
 cond (Q8 .eql v36 2)
 (some ((⟨0, 0, [], []⟩ : Q0), 0, 5))
 (cond (Q8 .neq v36 0)
 (some ((⟨0, 0, [], []⟩ : Q0), 0, v36))
 (some ((⟨v1.1.Kind, v34, [], []⟩ : Q0), v1.1.Width, 0)))) none) none)
 ((Qj N (⟨v1.1.Kind, 0, [], []⟩ : Q0)).bind fun v40 =>
 cond (Q8 .eql v40 2)
 (some ((⟨0, 0, [], []⟩ : Q0), 0, 5))
 (cond (Q8 .neq v40 0)
 (some ((⟨0, 0, [], []⟩ : Q0), 0, v40))
 (some ((⟨v1.1.Kind, 0, [], []⟩ : Q0), v1.1.Width, 0))))))))))
theorem Q2b {N} {code} {s_1} {r} (h : V7 N code s_1 = some r) : Zp Tryz.prog G1 97 [.int .i64 code, .str s_1] (.tuple [.agg (Q0.cells r.1), .int .i64 r.2.1, .int .i64 r.2.2]) := by
 refine Q4 k97 ?_
 unfold V7 at h
 refine cP h Xc p1 fun v1 h => ?_
 apply iU h <;> intro h
 ·obtain rfl := Ql h; exact (Frz.tuple' (.cons q4n p2))
 ·apply iU h <;> intro h
  ·obtain rfl := Ql h; exact (Frz.tuple' (.cons q4n p2))
  ·apply iU h <;> intro h
   ·obtain rfl := Ql h; exact (Frz.tuple' (.cons q4n p2))
   ·apply iU h <;> intro h
    ·obtain ⟨hk7, h⟩ := Qgg h
     refine Q72 hk7 ?_
     refine kU h fun h => ?_
     refine cP h W2 p1 fun v9 h => ?_
     apply iU h <;> intro h
     ·obtain rfl := Ql h; exact (Frz.tuple' (.cons q4n p2))
     ·refine Q72 hk7 ?_
      refine kU h fun h => ?_
      refine kU h fun h => ?_
      refine cP h Z9 (.cons q4n .nil) fun v14 h => ?_
      apply iU h <;> intro h
      ·refine ifT (by unfold Q8; decide) ?_
       obtain rfl := Ql h; exact (Frz.tuple' (.cons q4n p2))
      ·apply iU h <;> intro h
       ·obtain rfl := Ql h; exact (Frz.tuple' (.cons q4n p2))
       ·obtain rfl := Ql h; exact (Frz.tuple' (.cons q4n p2))
    ·apply iU h <;> intro h
     ·refine kU h fun h => ?_
      refine cP h Z9 (.cons q4n .nil) fun v20 h => ?_
      apply iU h <;> intro h
      ·refine ifT (by unfold Q8; decide) ?_
       obtain rfl := Ql h; exact (Frz.tuple' (.cons q4n p2))
      ·apply iU h <;> intro h
       ·obtain rfl := Ql h; exact (Frz.tuple' (.cons q4n p2))
       ·obtain rfl := Ql h; exact (Frz.tuple' (.cons q4n p2))
     ·apply iU h <;> intro h
      ·refine cP h Z9 (.cons q4n .nil) fun v25 h => ?_
       apply iU h <;> intro h
       ·refine ifT (by unfold Q8; decide) ?_
        obtain rfl := Ql h; exact (Frz.tuple' (.cons q4n p2))
       ·apply iU h <;> intro h
        ·obtain rfl := Ql h; exact (Frz.tuple' (.cons q4n p2))
        ·obtain rfl := Ql h; exact (Frz.tuple' (.cons q4n p2))
      ·apply iU h <;> intro h
       ·refine Qw ?_
        refine kU h fun h => ?_
        refine kU h fun h => ?_
        refine cD h W2 p1 fun v32 h => ?_
        refine cD h Q10 p3 fun v34 h => ?_
        refine cP h Z9 (.cons q4n .nil) fun v36 h => ?_
        apply iU h <;> intro h
        ·refine ifT (by unfold Q8; decide) ?_
         obtain rfl := Ql h; exact (Frz.tuple' (.cons q4n p2))
        ·apply iU h <;> intro h
         ·obtain rfl := Ql h; exact (Frz.tuple' (.cons q4n p2))
         ·obtain rfl := Ql h; exact (Frz.tuple' (.cons q4n p2))
       ·refine cP h Z9 (.cons q4n .nil) fun v40 h => ?_
        apply iU h <;> intro h
        ·refine ifT (by unfold Q8; decide) ?_
         obtain rfl := Ql h; exact (Frz.tuple' (.cons q4n p2))
        ·apply iU h <;> intro h
         ·obtain rfl := Ql h; exact (Frz.tuple' (.cons q4n p2))
         ·obtain rfl := Ql h; exact (Frz.tuple' (.cons q4n p2))
def Xn (_N : Nat) (v : Q0) : Option (Bool) :=
 cond (Q8 .eql v.Kind 11)
 (cond (Q8 .eql (Jw .u64 v.N' 2139095040) 2139095040)
 (cond (Q8 .neq (Jw .u64 v.N' 8388607) 0)
 (some true)
 (cond (Q8 .eql v.Kind 12)
 (cond (Q8 .eql (Jw .u64 v.N' 9218868437227405312) 9218868437227405312)
 (some (Q8 .neq (Jw .u64 v.N' 4503599627370495) 0))
 (some false))
 (some false)))
 (cond (Q8 .eql v.Kind 12)
 (cond (Q8 .eql (Jw .u64 v.N' 9218868437227405312) 9218868437227405312)
 (some (Q8 .neq (Jw .u64 v.N' 4503599627370495) 0))
 (some false))
 (some false)))
 (cond (Q8 .eql v.Kind 12)
 (cond (Q8 .eql (Jw .u64 v.N' 9218868437227405312) 9218868437227405312)
 (some (Q8 .neq (Jw .u64 v.N' 4503599627370495) 0))
 (some false))
 (some false))
theorem J5 {N} {v} {r} (h : Xn N v = some r) : Zp Tryz.prog G1 141 [.agg (Q0.cells v)] (.bool r) := by
 refine Q4 Qv8 ?_
 unfold Xn at h
 apply iU h <;> intro h
 ·apply iU h <;> intro h
  ·apply iU h <;> intro h
   ·cases h; exact (.p _)
   ·apply iU h <;> intro h
    ·apply iU h <;> intro h
     ·cases h; exact (.p _)
     ·cases h; exact (.p _)
    ·cases h; exact (.p _)
  ·apply iU h <;> intro h
   ·apply iU h <;> intro h
    ·cases h; exact (.p _)
    ·cases h; exact (.p _)
   ·cases h; exact (.p _)
 ·apply iU h <;> intro h
  ·apply iU h <;> intro h
   ·cases h; exact (.p _)
   ·cases h; exact (.p _)
  ·cases h; exact (.p _)
def Y5 (ry1 : Q0 → Q0 → Option (Bool)) (N : Nat) (a : Q0) (b : Q0) : Nat → Int → Option (Bool)
 | 0, _ => none
 | n + 1, i28 =>
  cond (Q8 .lss i28 ((Q0.rows a.Items).length : Int))
  ((idx a.Items i28).bind fun y30 =>
  (idx b.Items i28).bind fun y32 =>
  (ry1 y30 y32).bind fun v34 =>
  cond (!v34)
  (some false)
  (Y5 ry1 N a b n (IntKind.wrap .i64 (i28 + 1))))
  (some true)
def Y8 (ry1 : Q0 → Q0 → Option (Bool)) (N : Nat) (a : Q0) (b : Q0) : Nat → Int → Option (Bool)
 | 0, _ => none
 | n + 1, i56 =>
  cond (Q8 .lss i56 ((Q0.rows a.Items).length : Int))
  ((idx a.Items i56).bind fun y58 =>
  (idx b.Items i56).bind fun y60 =>
  (ry1 y58 y60).bind fun v62 =>
  cond (!v62)
  (some false)
  (Y8 ry1 N a b n (IntKind.wrap .i64 (i56 + 1))))
  (some true)
def Vh (ry1 : Q0 → Q0 → Option (Bool)) (N : Nat) (a : Q0) (b : Q0) : Option (Bool) :=
 cond (Q8 .neq a.Kind b.Kind)
 (some false)
 (cond (Q8 .neq a.N' b.N')
 ((Xn N a).bind fun v3 =>
 cond v3
 ((Xn N b).bind fun v6 =>
 cond (!v6)
 (some false)
 (cond (Q3o .neq a.Text b.Text)
 (some false)
 (cond (Q8 .neq ((Q0.rows a.Items).length : Int) ((Q0.rows b.Items).length : Int))
 (some false)
 (Y5 ry1 N a b N 0))))
 (some false))
 (cond (Q3o .neq a.Text b.Text)
 (some false)
 (cond (Q8 .neq ((Q0.rows a.Items).length : Int) ((Q0.rows b.Items).length : Int))
 (some false)
 (Y8 ry1 N a b N 0))))
theorem Q0w {ry1 : Q0 → Q0 → Option (Bool)} (hv2 : ∀ {a} {b} {r}, ry1 a b = some r → Zp Tryz.prog G1 121 [.agg (Q0.cells a), .agg (Q0.cells b)] (.bool r)) {N} {a} {b} {r} (h : Vh ry1 N a b = some r) : Zp Tryz.prog G1 121 [.agg (Q0.cells a), .agg (Q0.cells b)] (.bool r) := by
 refine Q4 Quw ?_
 unfold Vh at h
 apply iU h <;> intro h
 ·cases h; exact (.p _)
 ·apply iU h <;> intro h
  ·refine cP h J5 (.cons q4 .nil) fun v3 h => ?_
   apply iU h <;> intro h
   ·refine cP h J5 (.cons q4 .nil) fun v6 h => ?_
    apply iU h <;> intro h
    ·cases h; exact (.p _)
    ·apply iU h <;> intro h
     ·cases h; exact (.p _)
     ·apply iU h <;> intro h
      ·cases h; exact (.p _)
      ·refine lpC (τ := Int) (fun i28 => (.any :: .any :: .ptr 0 0 :: .ptr 1 0 :: .any :: iI i28 :: a16 (a16 (a16 (a8 ([])))) : List AV)) (fun _ => (.cells (iI a.Kind :: iW a.N' :: iS a.Text :: .p (.slice 4 (Q0.rows a.Items)) :: []) :: .cells (iI b.Kind :: iW b.N' :: iS b.Text :: .p (.slice 4 (Q0.rows b.Items)) :: []) :: [] : List AObj)) (fun n0 i28 => Y5 ry1 N a b n0 i28) (0) h (fun i => i) ⟨(rW <| rE rfl <| rE rfl <| rA <| rE rfl <| rX <| rX <| rX <| rX <| rX <| rX <| rX <| rN), (hE rfl <| hE rfl <| hN), rfl, rfl, (roE rfl <| roE rfl <| roN)⟩ fun n0 i28 h => ?_
       simp only [Y5] at h
       apply iU h <;> intro h
       ·refine Qw ?_
        refine Q0.xR h fun y30 h => ?_
        refine Q0.xR h fun y32 h => ?_
        refine cD h hv2 (.cons q4 (.cons q4 .nil)) fun v34 h => ?_
        apply iU h <;> intro h
        ·cases h; exact (.p _)
        ·show Exists _
         exact ⟨(n0, (IntKind.wrap .i64 (i28 + 1))), h, Nat.lt_succ_self _, (fun i => i), ⟨(rW <| rE rfl <| rE rfl <| rA <| rE rfl <| rX <| rX <| rX <| rX <| rX <| rX <| rX <| rN), (hE rfl <| hE rfl <| hN), rfl, rfl, (roE rfl <| roE rfl <| roN)⟩⟩
       ·cases h; exact (.p _)
   ·cases h; exact (.p _)
  ·apply iU h <;> intro h
   ·cases h; exact (.p _)
   ·apply iU h <;> intro h
    ·cases h; exact (.p _)
    ·refine lpC (τ := Int) (fun i56 => (.any :: .any :: .ptr 0 0 :: .ptr 1 0 :: .any :: iI i56 :: a16 (a16 (a16 (a8 ([])))) : List AV)) (fun _ => (.cells (iI a.Kind :: iW a.N' :: iS a.Text :: .p (.slice 4 (Q0.rows a.Items)) :: []) :: .cells (iI b.Kind :: iW b.N' :: iS b.Text :: .p (.slice 4 (Q0.rows b.Items)) :: []) :: [] : List AObj)) (fun n1 i56 => Y8 ry1 N a b n1 i56) (0) h (fun i => i) ⟨(rW <| rE rfl <| rE rfl <| rA <| rE rfl <| rX <| rX <| rX <| rX <| rX <| rX <| rX <| rN), (hE rfl <| hE rfl <| hN), rfl, rfl, (roE rfl <| roE rfl <| roN)⟩ fun n1 i56 h => ?_
     simp only [Y8] at h
     apply iU h <;> intro h
     ·refine Qw ?_
      refine Q0.xR h fun y58 h => ?_
      refine Q0.xR h fun y60 h => ?_
      refine cD h hv2 (.cons q4 (.cons q4 .nil)) fun v62 h => ?_
      apply iU h <;> intro h
      ·cases h; exact (.p _)
      ·show Exists _
       exact ⟨(n1, (IntKind.wrap .i64 (i56 + 1))), h, Nat.lt_succ_self _, (fun i => i), ⟨(rW <| rE rfl <| rE rfl <| rA <| rE rfl <| rX <| rX <| rX <| rX <| rX <| rX <| rX <| rN), (hE rfl <| hE rfl <| hN), rfl, rfl, (roE rfl <| roE rfl <| roN)⟩⟩
     ·cases h; exact (.p _)
def Yc : Nat → Q0 → Q0 → Option (Bool)
 | 0 => fun _ _ => none
 | N + 1 => Vh (Yc N) N
theorem Q0t {N} {a} {b} {r} (h : Yc N a b = some r) : Zp Tryz.prog G1 121 [.agg (Q0.cells a), .agg (Q0.cells b)] (.bool r) := by
 induction N generalizing a b r with
 | zero => simp [Yc] at h
 | succ N ih => exact Q0w (fun h => ih h) h
def Y4 (N : Nat) (k0 : Int → Option (Bool)) (items : List Q0) (i30 : Int) : Nat → Int → Option (Bool)
 | 0, _ => none
 | n + 1, k49 =>
  cond (Q8 .lss k49 i30)
  ((idx items i30).bind fun y51 =>
  (idx items k49).bind fun y53 =>
  (Yc N y51 y53).bind fun v55 =>
  cond v55
  (some true)
  (Y4 N k0 items i30 n (IntKind.wrap .i64 (k49 + 2))))
  (k0 (IntKind.wrap .i64 (i30 + 2)))
def Za (N : Nat) (items : List Q0) : Nat → Int → Option (Bool)
 | 0, _ => none
 | n + 1, i30 =>
  cond (Q8 .lss i30 ((Q0.rows items).length : Int))
  (Y4 N (Za N items n) items i30 N 0)
  (some false)
def Ye (N : Nat) (items : List Q0) : Option (Bool) :=
 Za N items N 0
theorem Ux {N} {items} {r} (h : Ye N items = some r) : Zp Tryz.prog G1 100 [.slice 4 (Q0.rows items)] (.bool r) := by
 refine Q4 Qwi ?_
 unfold Ye at h
 refine lpC (τ := Int) (fun i30 => (.p (.slice 4 (Q0.rows items)) :: .any :: .any :: iI i30 :: a16 (a4 (.any :: [])) : List AV)) (fun _ => ([] : List AObj)) (fun n0 i30 => Za N items n0 i30) (0) h (fun i => i) ⟨(rE rfl <| rW <| rE rfl <| rX <| rX <| rV <| rA <| rN), (hN), rfl, rfl, (roN)⟩ fun n0 i30 h => ?_
 simp only [Za] at h
 apply iU h <;> intro h
 ·refine lpC (τ := Int) (fun k49 => (.p (.slice 4 (Q0.rows items)) :: .any :: .any :: iI i30 :: iI k49 :: a16 (a4 ([])) : List AV)) (fun _ => ([] : List AObj)) (fun n1 k49 => Y4 N (Za N items n0) items i30 n1 k49) (0) h (fun i => i) ⟨(rE rfl <| rW <| rE rfl <| rE rfl <| rX <| rX <| rV <| rN), (hN), rfl, rfl, (roN)⟩ fun n1 k49 h => ?_
  simp only [Y4] at h
  apply iU h <;> intro h
  ·refine Qw ?_
   refine Q0.xR h fun y51 h => ?_
   refine Q0.xR h fun y53 h => ?_
   refine cD h Q0t (.cons q4 (.cons q4 .nil)) fun v55 h => ?_
   apply iU h <;> intro h
   ·cases h; exact (.p _)
   ·show Exists _
    exact ⟨(n1, (IntKind.wrap .i64 (k49 + 2))), h, Nat.lt_succ_self _, (fun i => i), ⟨(rE rfl <| rW <| rE rfl <| rE rfl <| rX <| rX <| rV <| rN), (hN), rfl, rfl, (roN)⟩⟩
  ·show Exists _
   exact ⟨(n0, (IntKind.wrap .i64 (i30 + 2))), h, Nat.lt_succ_self _, (fun i => i), ⟨(rE rfl <| rW <| rE rfl <| rX <| rX <| rV <| rA <| rN), (hN), rfl, rfl, (roN)⟩⟩
 ·cases h; exact (.p _)
end
end
end Go.Av
