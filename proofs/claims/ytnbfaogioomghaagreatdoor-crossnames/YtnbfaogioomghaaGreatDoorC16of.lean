/- Part of the proof of CrossNames: for every input the law returns true; no condition. -/
import Derived.Test.YtnbfaogioomghaaGreatDoorAvTac
import Derived.Test.YtnbfaogioomghaaGreatDoorChks
import Derived.Test.YtnbfaogioomghaaGreatDoorSeat1
namespace Go.Av
noncomputable section
open Go.Proofs
set_option maxRecDepth 100000
attribute [local irreducible] Z6 Ze Q2v Q3c Qfz Qfn
def Qe6 (x y : Int) : Int := if x < y then -1 else if x > y then 1 else 0
theorem Q6p (x : Int) : Pure Tryz.prog G1 181 [.int .i64 x] (.bool false) := by
 refine Q8 Qn5 ?_;refine Q1i ?_;simp only [Env.c1]; unfold Qi;simp
theorem Q8b (x y : Int) : Pure Tryz.prog G1 166 [.int .i64 x, .int .i64 y] (.int .i64 (Qe6 x y)) := by
 refine Q8 Qmc ?_;refine Y1 (Q6p x) (.cons (.p _) .nil) ?_;refine Y1 (Q6p y) (.cons (.p _) .nil) ?_;refine ifP (fun h => ?_) (fun h => ?_)
 ·refine Q1i ?_;simp only [Env.c1] at h; unfold Qi at h;simp at h;simp [Qe6, h]
 refine ifP (fun h2 => ?_) (fun h2 => ?_)
 ·refine Q1i ?_;simp only [Env.c1] at h h2; unfold Qi at h h2;simp at h h2;simp [Qe6, h2]; omega
 refine Q1i ?_;simp only [Env.c1] at h h2; unfold Qi at h h2;simp at h h2;simp [Qe6]; omega
def Q7r (c k w : Int) (s i : Bool) : List PV := [.int .i64 c, .int .i64 k, .int .i64 w, .bool s, .bool i]
theorem Q6b (c k w : Int) (s i : Bool) (n : Int) : Pure Tryz.prog G1 165 [.agg (Q7r c k w s i), .int .i64 n] (.int .i64 (Qe6 c n)) := by
 refine Q8 Qjh ?_;refine Y1 (Q8b c n) (.cons (.p _) (.cons (.p _) .nil)) ?_;exact Q1i rfl
def tabL : List (Int × Int × Int × Bool × Bool) := [(0, 25, 0, false, true), (64, 1, 0, false, false), (65, 2, 0, false, false), (66, 2, 0, false, false), (67, 5, 0, false, false), (68, 6, 0, false, false), (69, 22, 0, false, true), (80, 3, 1, false, false), (81, 7, 1, false, false), (82, 5, 1, false, false), (83, 6, 1, false, false), (84, 9, 1, false, false), (85, 10, 1, false, false), (86, 2, 1, false, false), (96, 4, 2, false, false), (97, 8, 2, false, false), (112, 5, 4, false, false), (113, 9, 4, false, false), (114, 11, 4, false, false), (115, 16, 4, false, false), (116, 13, 4, false, false), (128, 6, 8, false, false), (129, 10, 8, false, false), (130, 12, 8, false, false), (131, 17, 8, false, false), (132, 14, 8, false, false), (148, 15, 16, false, false), (152, 18, 16, false, false), (160, 19, 1, true, false), (161, 20, 1, true, false), (163, 21, 1, true, false), (176, 19, 4, true, false), (177, 20, 4, true, false), (179, 21, 4, true, false), (192, 22, 1, true, true), (193, 23, 1, true, true), (208, 22, 4, true, true), (209, 23, 4, true, true), (224, 24, 1, true, true), (240, 24, 4, true, true)]
def Q2s (k : Nat) : Int × Int × Int × Bool × Bool := tabL.getD k (0, 0, 0, false, false)
def Vf (k : Nat) : Int := (Q2s k).1
def Q7a (k : Nat) : List PV := Q7r (Q2s k).1 (Q2s k).2.1 (Q2s k).2.2.1 (Q2s k).2.2.2.1 (Q2s k).2.2.2.2
def Qio : List (List PV) := tabL.map fun (a, b, c, d, e) => Q7r a b c d e
def Qbq : PV := .slice 5 Qio
theorem Q1q (k : Nat) (h : k < 40) : Qio[k]? = some (Q7a k) := by
 have hl : tabL.length = 40 := rfl;unfold Qio Q7a Q2s;rw [Lh, Le, Ld (by omega)];rfl
theorem Q32 : ∀ a, a < 40 → ∀ b, b < 40 → a < b → Vf a < Vf b := by decide +kernel
def bsI (n : Int) : Nat := ((List.range 40).filter fun k => Vf k < n).length
theorem Qh0 (n : Int) (i : Nat) (hi : i ≤ 40) (h1 : ∀ k, k < i → Vf k < n) (h2 : ∀ k, i ≤ k → k < 40 → n ≤ Vf k) : bsI n = i := by
 unfold bsI
 have e : List.range 40 = List.range i ++ (List.range (40 - i)).map (i + ·) := by
  rw [← List.range_add]; congr 1; omega
 rw [e, List.filter_append, Mq, List.filter_eq_self.2, List.length_range, List.filter_eq_nil_iff.2]
 ·rfl
 ·intro k hk;simp only [Mp, Bd] at hk;obtain ⟨j, hj, rfl⟩ := hk;have := h2 (i + j) (by omega) (by omega)
  simp; omega
 intro k hk;simpa using h1 k (by simpa using hk)
def bsT (n : Int) (s : Nat × Nat) : List AV := .p Qbq :: .p (.int .i64 n) :: .p (.func (.func 165) [] []) :: .any :: .any :: .any :: .any :: .any :: .p (.int .i64 40) :: .p (.int .i64 s.1) :: .p (.int .i64 s.2) :: List.replicate 38 .any
theorem Qbm (i j : Nat) (hi : i ≤ 40) (hj : j ≤ 40) : IntKind.i64.wrap ((IntKind.u64.wrap (IntKind.i64.wrap ((i : Int) + j))).fdiv (2 ^ min (Int.toNat 1) IntKind.u64.bits)) = (((i + j) / 2 : Nat) : Int) := by
 have e1 : IntKind.i64.wrap ((i : Int) + j) = ((i + j : Nat) : Int) := by rw [IntWalk.i64_in _ (by omega)]; push_cast; rfl
 have e2 : IntKind.u64.wrap (((i + j : Nat)) : Int) = ((i + j : Nat) : Int) := by simp only [IntKind.wrap, IntKind.bits, IntKind.signed]; simp; omega
 have e3 : (2 : Int) ^ min (Int.toNat 1) IntKind.u64.bits = 2 := rfl;rw [e1, e2, e3, Int.fdiv_eq_ediv_of_nonneg _ (by omega), IntWalk.i64_in _ (by omega)];omega
theorem Q8p (x y : Int) : Qe6 x y < 0 ↔ x < y := by unfold Qe6; split <;> (try split) <;> omega
theorem Qc8 (x y : Int) : Qe6 x y = 0 ↔ x = y := by unfold Qe6; split <;> (try split) <;> omega
theorem Qi7 (n : Int) : Pure Tryz.prog G1 164 [Qbq, .int .i64 n, .func (.func 165) [] []]
  (.tuple [.int .i64 (bsI n), .bool (decide (bsI n < 40) && decide (Vf (bsI n) = n))]) := by
 refine Q8 Qnn ?_;refine Q1v (bsT n) (fun _ => []) (fun s => s.1 ≤ s.2 ∧ s.2 ≤ 40 ∧ (∀ k, k < s.1 → Vf k < n) ∧ ∀ k, s.2 ≤ k → k < 40 → n ≤ Vf k) (fun s => s.2 - s.1) (0, 40)
  ⟨by omega, by omega, fun k h => by omega, fun k h1 h2 => by omega⟩ ⟨⟨rfl, rfl, rfl, rfl, rfl, rfl, trivial⟩, rfl, rfl, rfl⟩ (fun _ _ => Lj _) (fun s hs => ?_)
 obtain ⟨i, j⟩ := s;obtain ⟨h1, h2, h3, h4⟩ := hs
 simp only at h1 h2 h3 h4
 refine ifP (fun h => ?_) (fun h => ?_)
 ·have hlt : i < j := by simp only [Env.c1] at h; unfold Qi at h; simpa using h
  refine Qgs (x := Q7a ((i + j) / 2)) (by rw [Qbm i j (by omega) h2]; exact Q1q _ (by omega)) ?_;refine Y1 (Q6b _ _ _ _ _ n) (.cons (.agg' (.cons (.p _) (.cons (.p _) (.cons (.p _) (.cons (.p _) (.cons (.p _) .nil)))))) (.cons (.p _) .nil)) ?_;refine ifP (fun hc => ?_) (fun hc => ?_)
  ·have hc : Vf ((i + j) / 2) < n := by simp only [Env.c1] at hc; unfold Qi at hc; exact (Q8p (Q2s ((i + j) / 2)).1 n).1 (by simpa using hc)
   refine ⟨((i + j) / 2 + 1, j), ⟨by omega, h2, fun k hk => ?_, h4⟩, by simp only; omega, ⟨rfl, rfl, rfl, rfl, ?_, rfl, trivial⟩, rfl, rfl, rfl⟩
   ·by_cases hk2 : k = (i + j) / 2
    ·rw [hk2]; exact hc
    have := Q32 k (by omega) ((i + j) / 2) (by omega) (by omega); omega
   rw [Qbm i j (by omega) h2, IntWalk.i64_in _ (by omega)]; rfl
  have hc : n ≤ Vf ((i + j) / 2) := by
   simp only [Env.c1] at hc; unfold Qi at hc;have := (not_congr (Q8p (Q2s ((i + j) / 2)).1 n)).1 (by simpa using hc);unfold Vf;omega
  refine ⟨(i, (i + j) / 2), ⟨by simp only; omega, by simp only; omega, h3, fun k hk1 hk2 => ?_⟩, by simp only; omega, ⟨rfl, rfl, rfl, rfl, rfl, ?_, trivial⟩, rfl, rfl, rfl⟩
  ·by_cases hk : k = (i + j) / 2
   ·rw [hk]; exact hc
   simp only at hk1
   have := Q32 ((i + j) / 2) (by omega) k (by omega) (by omega); omega
  rw [Qbm i j (by omega) h2]
 have hij : i = j := by simp only [Env.c1] at h; unfold Qi at h; simp at h; omega
 subst hij;have hb := Qh0 n i h2 h3 h4;refine ifP (fun hlt => ?_) (fun hlt => ?_)
 ·have hlt : i < 40 := by simp only [Env.c1] at hlt; unfold Qi at hlt; simp at hlt; omega
  refine Qgs (x := Q7a i) (Q1q _ hlt) ?_;refine Y1 (Q6b _ _ _ _ _ n) (.cons (.agg' (.cons (.p _) (.cons (.p _) (.cons (.p _) (.cons (.p _) (.cons (.p _) .nil)))))) (.cons (.p _) .nil)) ?_;refine Frz.tuple' (.cons (Q1i ?_) (.cons (Q1i ?_) .nil))
  ·rw [hb]
  simp only [Env.c1]; unfold Qi;simp only [hb, hlt, decide_true, Ca, PV.bool.injEq];rw [Bool.eq_iff_iff];simp only [beq_iff_eq, decide_eq_true_eq];exact Qc8 _ _
 have hge : ¬ i < 40 := by simp only [Env.c1] at hlt; unfold Qi at hlt; simp at hlt; omega
 refine Frz.tuple' (.cons (Q1i ?_) (.cons (Q1i ?_) .nil))
 ·rw [hb]
 rw [hb]; simp [hge]
end
end Go.Av
