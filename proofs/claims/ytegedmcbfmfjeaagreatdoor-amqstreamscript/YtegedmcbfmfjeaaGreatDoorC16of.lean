/- The law. Part of a proof of a given statement: for every input the law returns true and the arguments read as before; no condition beyond the given row. -/
import Derived.Test.YtegedmcbfmfjeaaGreatDoorAvTac
import Derived.Test.YtegedmcbfmfjeaaGreatDoorChks
import Derived.Test.YtegedmcbfmfjeaaGreatDoorSeat1
namespace Go.Av
noncomputable section
open Go.Proofs
set_option maxRecDepth 100000
attribute [local irreducible] V9 Xn Q4u Q4y Qgk Qhv
def Qle (x y : Int) : Int := if x < y then -1 else if x > y then 1 else 0
theorem Qc2 (x : Int) : Xe Tryz.prog G1 103 [.int .i64 x] (.bool false) := by
 refine Qc Qs4 ?_
 refine Q7v ?_
 simp only [Env.c1, Q73]; unfold Q7
 simp
theorem Qdy (x y : Int) : Xe Tryz.prog G1 89 [.int .i64 x, .int .i64 y] (.int .i64 (Qle x y)) := by
 refine Qc k89 ?_
 refine U4 (Qc2 x) (.cons (.p _) .nil) ?_
 refine U4 (Qc2 y) (.cons (.p _) .nil) ?_
 refine ifP (fun h => ?_) (fun h => ?_)
 ·refine Q7v ?_
  simp only [Env.c1, Q73] at h; unfold Q7 at h
  simp at h
  simp [Qle, h]
 ·refine ifP (fun h2 => ?_) (fun h2 => ?_)
  ·refine Q7v ?_
   simp only [Env.c1, Q73] at h h2; unfold Q7 at h h2
   simp at h h2
   simp [Qle, h2]; omega
  ·refine Q7v ?_
   simp only [Env.c1, Q73] at h h2; unfold Q7 at h h2
   simp at h h2
   simp [Qle]; omega
def Qd9 (c k w : Int) (s i : Bool) : List PV := [.int .i64 c, .int .i64 k, .int .i64 w, .bool s, .bool i]
theorem Qbt (c k w : Int) (s i : Bool) (n : Int) : Xe Tryz.prog G1 88 [.agg (Qd9 c k w s i), .int .i64 n] (.int .i64 (Qle c n)) := by
 refine Qc k88 ?_
 refine U4 (Qdy c n) (.cons (.p _) (.cons (.p _) .nil)) ?_
 exact Q7v rfl
def tabL : List (Int × Int × Int × Bool × Bool) := [(0, 25, 0, false, true), (64, 1, 0, false, false), (65, 2, 0, false, false), (66, 2, 0, false, false), (67, 5, 0, false, false), (68, 6, 0, false, false), (69, 22, 0, false, true), (80, 3, 1, false, false), (81, 7, 1, false, false), (82, 5, 1, false, false), (83, 6, 1, false, false), (84, 9, 1, false, false), (85, 10, 1, false, false), (86, 2, 1, false, false), (96, 4, 2, false, false), (97, 8, 2, false, false), (112, 5, 4, false, false), (113, 9, 4, false, false), (114, 11, 4, false, false), (115, 16, 4, false, false), (116, 13, 4, false, false), (128, 6, 8, false, false), (129, 10, 8, false, false), (130, 12, 8, false, false), (131, 17, 8, false, false), (132, 14, 8, false, false), (148, 15, 16, false, false), (152, 18, 16, false, false), (160, 19, 1, true, false), (161, 20, 1, true, false), (163, 21, 1, true, false), (176, 19, 4, true, false), (177, 20, 4, true, false), (179, 21, 4, true, false), (192, 22, 1, true, true), (193, 23, 1, true, true), (208, 22, 4, true, true), (209, 23, 4, true, true), (224, 24, 1, true, true), (240, 24, 4, true, true)]
def V1 (k : Nat) : Int × Int × Int × Bool × Bool := tabL.getD k (0, 0, 0, false, false)
def Uo (k : Nat) : Int := (V1 k).1
def Qdl (k : Nat) : List PV := Qd9 (V1 k).1 (V1 k).2.1 (V1 k).2.2.1 (V1 k).2.2.2.1 (V1 k).2.2.2.2
def Qqe : List (List PV) := tabL.map fun (a, b, c, d, e) => Qd9 a b c d e
def Qnq : PV := .slice 5 Qqe
theorem Qaf (k : Nat) (h : k < 40) : Qqe[k]? = some (Qdl k) := by
 have hl : tabL.length = 40 := rfl
 unfold Qqe Qdl V1
 rw [List.getElem?_map, List.getD_eq_getElem?_getD, List.getElem?_eq_getElem (by omega)]
 rfl
theorem Q81 : ∀ a, a < 40 → ∀ b, b < 40 → a < b → Uo a < Uo b := by decide +kernel
def bsI (n : Int) : Nat := ((List.range 40).filter fun k => Uo k < n).length
theorem Qpj (n : Int) (i : Nat) (hi : i ≤ 40) (h1 : ∀ k, k < i → Uo k < n) (h2 : ∀ k, i ≤ k → k < 40 → n ≤ Uo k) : bsI n = i := by
 unfold bsI
 have e : List.range 40 = List.range i ++ (List.range (40 - i)).map (i + ·) := by
  rw [← List.range_add]; congr 1; omega
 rw [e, List.filter_append, List.length_append, List.filter_eq_self.2, List.length_range, List.filter_eq_nil_iff.2]
 ·rfl
 ·intro k hk
  simp only [List.mem_map, List.mem_range] at hk
  obtain ⟨j, hj, rfl⟩ := hk
  have := h2 (i + j) (by omega) (by omega)
  simp; omega
 ·intro k hk
  simpa using h1 k (by simpa using hk)
def bsT (n : Int) (s : Nat × Nat) : List AV := .p Qnq :: .p (.int .i64 n) :: .p (.func (.func 88) [] []) :: .any :: .any :: .any :: .any :: .any :: .p (.int .i64 40) :: .p (.int .i64 s.1) :: .p (.int .i64 s.2) :: List.replicate 38 .any
theorem Qhi (i j : Nat) (hi : i ≤ 40) (hj : j ≤ 40) : IntKind.i64.wrap ((IntKind.u64.wrap (IntKind.i64.wrap ((i : Int) + j))).fdiv (2 ^ min (Int.toNat 1) IntKind.u64.bits)) = (((i + j) / 2 : Nat) : Int) := by
 have e1 : IntKind.i64.wrap ((i : Int) + j) = ((i + j : Nat) : Int) := by rw [IntWalk.i64_in _ (by omega)]; push_cast; rfl
 have e2 : IntKind.u64.wrap (((i + j : Nat)) : Int) = ((i + j : Nat) : Int) := by simp only [IntKind.wrap, IntKind.bits, IntKind.signed]; simp; omega
 have e3 : (2 : Int) ^ min (Int.toNat 1) IntKind.u64.bits = 2 := rfl
 rw [e1, e2, e3, Int.fdiv_eq_ediv_of_nonneg _ (by omega), IntWalk.i64_in _ (by omega)]
 omega
theorem Qef (x y : Int) : Qle x y < 0 ↔ x < y := by unfold Qle; split <;> (try split) <;> omega
theorem Qhn (x y : Int) : Qle x y = 0 ↔ x = y := by unfold Qle; split <;> (try split) <;> omega
theorem Qp2 (n : Int) : Xe Tryz.prog G1 87 [Qnq, .int .i64 n, .func (.func 88) [] []]
  (.tuple [.int .i64 (bsI n), .bool (decide (bsI n < 40) && decide (Uo (bsI n) = n))]) := by
 refine Qc k87 ?_
 refine Qhk (bsT n) (fun _ => []) (fun s => s.1 ≤ s.2 ∧ s.2 ≤ 40 ∧ (∀ k, k < s.1 → Uo k < n) ∧ ∀ k, s.2 ≤ k → k < 40 → n ≤ Uo k) (fun s => s.2 - s.1) (0, 40)
  ⟨by omega, by omega, fun k h => by omega, fun k h1 h2 => by omega⟩ ⟨⟨rfl, rfl, rfl, rfl, rfl, rfl, trivial⟩, rfl, rfl, rfl⟩ (fun _ _ => Nat.le_refl _) (fun s hs => ?_)
 obtain ⟨i, j⟩ := s
 obtain ⟨h1, h2, h3, h4⟩ := hs
 simp only at h1 h2 h3 h4
 refine ifP (fun h => ?_) (fun h => ?_)
 ·have hlt : i < j := by simp only [Env.c1, Q73] at h; unfold Q7 at h; simpa using h
  refine Qon (x := Qdl ((i + j) / 2)) (by rw [Qhi i j (by omega) h2]; exact Qaf _ (by omega)) ?_
  refine U4 (Qbt _ _ _ _ _ n) (.cons (.agg' (.cons (.p _) (.cons (.p _) (.cons (.p _) (.cons (.p _) (.cons (.p _) .nil)))))) (.cons (.p _) .nil)) ?_
  refine ifP (fun hc => ?_) (fun hc => ?_)
  ·have hc : Uo ((i + j) / 2) < n := by simp only [Env.c1, Q73] at hc; unfold Q7 at hc; exact (Qef (V1 ((i + j) / 2)).1 n).1 (by simpa using hc)
   refine ⟨((i + j) / 2 + 1, j), ⟨by omega, h2, fun k hk => ?_, h4⟩, by simp only; omega, ⟨rfl, rfl, rfl, rfl, ?_, rfl, trivial⟩, rfl, rfl, rfl⟩
   ·by_cases hk2 : k = (i + j) / 2
    ·rw [hk2]; exact hc
    ·have := Q81 k (by omega) ((i + j) / 2) (by omega) (by omega); omega
   ·rw [Qhi i j (by omega) h2, IntWalk.i64_in _ (by omega)]; rfl
  ·have hc : n ≤ Uo ((i + j) / 2) := by
    simp only [Env.c1, Q73] at hc; unfold Q7 at hc
    have := (not_congr (Qef (V1 ((i + j) / 2)).1 n)).1 (by simpa using hc)
    unfold Uo
    omega
   refine ⟨(i, (i + j) / 2), ⟨by simp only; omega, by simp only; omega, h3, fun k hk1 hk2 => ?_⟩, by simp only; omega, ⟨rfl, rfl, rfl, rfl, rfl, ?_, trivial⟩, rfl, rfl, rfl⟩
   ·by_cases hk : k = (i + j) / 2
    ·rw [hk]; exact hc
    ·simp only at hk1
     have := Q81 ((i + j) / 2) (by omega) k (by omega) (by omega); omega
   ·rw [Qhi i j (by omega) h2]
 ·have hij : i = j := by simp only [Env.c1, Q73] at h; unfold Q7 at h; simp at h; omega
  subst hij
  have hb := Qpj n i h2 h3 h4
  refine ifP (fun hlt => ?_) (fun hlt => ?_)
  ·have hlt : i < 40 := by simp only [Env.c1, Q73] at hlt; unfold Q7 at hlt; simp at hlt; omega
   refine Qon (x := Qdl i) (Qaf _ hlt) ?_
   refine U4 (Qbt _ _ _ _ _ n) (.cons (.agg' (.cons (.p _) (.cons (.p _) (.cons (.p _) (.cons (.p _) (.cons (.p _) .nil)))))) (.cons (.p _) .nil)) ?_
   refine Frz.tuple' (.cons (Q7v ?_) (.cons (Q7v ?_) .nil))
   ·rw [hb]
   ·simp only [Env.c1, Q73]; unfold Q7
    simp only [hb, hlt, decide_true, Bool.true_and, PV.bool.injEq]
    rw [Bool.eq_iff_iff]
    simp only [beq_iff_eq, decide_eq_true_eq]
    exact Qhn _ _
  ·have hge : ¬ i < 40 := by simp only [Env.c1, Q73] at hlt; unfold Q7 at hlt; simp at hlt; omega
   refine Frz.tuple' (.cons (Q7v ?_) (.cons (Q7v ?_) .nil))
   ·rw [hb]
   ·rw [hb]; simp [hge]
end
end Go.Av
