/- Part of the proof of EventOwn: for every input the law returns true; no condition. -/
import Derived.Test.YtnbdhlnkhdhohaaGreatDoorAvTac
import Derived.Test.YtnbdhlnkhdhohaaGreatDoorChks
import Derived.Test.YtnbdhlnkhdhohaaGreatDoorSeat1
import Derived.Test.YtnbdhlnkhdhohaaGreatDoorAvClosed4
namespace Go.Av
noncomputable section
open Go.Proofs
set_option maxRecDepth 100000
attribute [local irreducible] Vp Xe Q79 Qc9 Qpg Qpp
def Qwz (x y : Int) : Int := if x < y then -1 else if x > y then 1 else 0
theorem Qm5 (x : Int) : Gt Tryz.prog G1 233 [.int .i64 x] (.bool false) := by
 refine Q2 Zdn ?_;refine Qe5 ?_;simp only [Env.c1]; unfold Q3;simp
theorem Qna (x y : Int) : Gt Tryz.prog G1 182 [.int .i64 x, .int .i64 y] (.int .i64 (Qwz x y)) := by
 refine Q2 Zgr ?_;refine Wz (Qm5 x) (.cons (.p _) .nil) ?_;refine Wz (Qm5 y) (.cons (.p _) .nil) ?_;refine ifP (fun h => ?_) (fun h => ?_)
 ·refine Qe5 ?_;simp only [Env.c1] at h; unfold Q3 at h;simp at h;simp [Qwz, h]
 refine ifP (fun h2 => ?_) (fun h2 => ?_)
 ·refine Qe5 ?_;simp only [Env.c1] at h h2; unfold Q3 at h h2;simp at h h2;simp [Qwz, h2]; omega
 refine Qe5 ?_;simp only [Env.c1] at h h2; unfold Q3 at h h2;simp at h h2;simp [Qwz]; omega
def Qnl (c k w : Int) (s i : Bool) : List PV := [.int .i64 c, .int .i64 k, .int .i64 w, .bool s, .bool i]
theorem Qke (c k w : Int) (s i : Bool) (n : Int) : Gt Tryz.prog G1 181 [.agg (Qnl c k w s i), .int .i64 n] (.int .i64 (Qwz c n)) := by
 refine Q2 Ze7 ?_;refine Wz (Qna c n) (.cons (.p _) (.cons (.p _) .nil)) ?_;exact Qe5 rfl
def tabL : List (Int × Int × Int × Bool × Bool) := [(0, 25, 0, false, true), (64, 1, 0, false, false), (65, 2, 0, false, false), (66, 2, 0, false, false), (67, 5, 0, false, false), (68, 6, 0, false, false), (69, 22, 0, false, true), (80, 3, 1, false, false), (81, 7, 1, false, false), (82, 5, 1, false, false), (83, 6, 1, false, false), (84, 9, 1, false, false), (85, 10, 1, false, false), (86, 2, 1, false, false), (96, 4, 2, false, false), (97, 8, 2, false, false), (112, 5, 4, false, false), (113, 9, 4, false, false), (114, 11, 4, false, false), (115, 16, 4, false, false), (116, 13, 4, false, false), (128, 6, 8, false, false), (129, 10, 8, false, false), (130, 12, 8, false, false), (131, 17, 8, false, false), (132, 14, 8, false, false), (148, 15, 16, false, false), (152, 18, 16, false, false), (160, 19, 1, true, false), (161, 20, 1, true, false), (163, 21, 1, true, false), (176, 19, 4, true, false), (177, 20, 4, true, false), (179, 21, 4, true, false), (192, 22, 1, true, true), (193, 23, 1, true, true), (208, 22, 4, true, true), (209, 23, 4, true, true), (224, 24, 1, true, true), (240, 24, 4, true, true)]
def Q1i (k : Nat) : Int × Int × Int × Bool × Bool := tabL.getD k (0, 0, 0, false, false)
def Q46 (k : Nat) : Int := (Q1i k).1
def Qm0 (k : Nat) : List PV := Qnl (Q1i k).1 (Q1i k).2.1 (Q1i k).2.2.1 (Q1i k).2.2.2.1 (Q1i k).2.2.2.2
def Z53 : List (List PV) := tabL.map fun (a, b, c, d, e) => Qnl a b c d e
def Qsv : PV := .slice 5 Z53
theorem Qel (k : Nat) (h : k < 40) : Z53[k]? = some (Qm0 k) := by
 have hl : tabL.length = 40 := rfl;unfold Z53 Qm0 Q1i;rw [Ll, Lf, Ld (by omega)];rfl
theorem Qg9 : ∀ a, a < 40 → ∀ b, b < 40 → a < b → Q46 a < Q46 b := by decide +kernel
def bsI (n : Int) : Nat := ((List.range 40).filter fun k => Q46 k < n).length
theorem Z3d (n : Int) (i : Nat) (hi : i ≤ 40) (h1 : ∀ k, k < i → Q46 k < n) (h2 : ∀ k, i ≤ k → k < 40 → n ≤ Q46 k) : bsI n = i := by
 unfold bsI
 have e : List.range 40 = List.range i ++ (List.range (40 - i)).map (i + ·) := by
  rw [← List.range_add]; congr 1; omega
 rw [e, List.filter_append, Li, List.filter_eq_self.2, List.length_range, List.filter_eq_nil_iff.2]
 ·rfl
 ·intro k hk;simp only [Nd, Bw] at hk;obtain ⟨j, hj, rfl⟩ := hk;have := h2 (i + j) (by omega) (by omega)
  simp; omega
 intro k hk;simpa using h1 k (by simpa using hk)
def bsT (n : Int) (s : Nat × Nat) : List AV := .p Qsv :: .p (.int .i64 n) :: .p (.func (.func 181) [] []) :: .any :: .any :: .any :: .any :: .any :: .p (.int .i64 40) :: .p (.int .i64 s.1) :: .p (.int .i64 s.2) :: List.replicate 38 .any
theorem Qtp (i j : Nat) (hi : i ≤ 40) (hj : j ≤ 40) : IntKind.i64.wrap ((IntKind.u64.wrap (IntKind.i64.wrap ((i : Int) + j))).fdiv (2 ^ min (Int.toNat 1) IntKind.u64.bits)) = (((i + j) / 2 : Nat) : Int) := by
 have e1 : IntKind.i64.wrap ((i : Int) + j) = ((i + j : Nat) : Int) := by rw [IntWalk.i64_in _ (by omega)]; push_cast; rfl
 have e2 : IntKind.u64.wrap (((i + j : Nat)) : Int) = ((i + j : Nat) : Int) := by simp only [IntKind.wrap, IntKind.bits, IntKind.signed]; simp; omega
 have e3 : (2 : Int) ^ min (Int.toNat 1) IntKind.u64.bits = 2 := rfl;rw [e1, e2, e3, Int.fdiv_eq_ediv_of_nonneg _ (by omega), IntWalk.i64_in _ (by omega)];omega
theorem Qoz (x y : Int) : Qwz x y < 0 ↔ x < y := by unfold Qwz; split <;> (try split) <;> omega
theorem Qv4 (x y : Int) : Qwz x y = 0 ↔ x = y := by unfold Qwz; split <;> (try split) <;> omega
theorem Z2b (n : Int) : Gt Tryz.prog G1 180 [Qsv, .int .i64 n, .func (.func 181) [] []]
  (.tuple [.int .i64 (bsI n), .bool (decide (bsI n < 40) && decide (Q46 (bsI n) = n))]) := by
 refine Q2 Z7c ?_;refine Qg3 (bsT n) (fun _ => []) (fun s => s.1 ≤ s.2 ∧ s.2 ≤ 40 ∧ (∀ k, k < s.1 → Q46 k < n) ∧ ∀ k, s.2 ≤ k → k < 40 → n ≤ Q46 k) (fun s => s.2 - s.1) (0, 40)
  ⟨by omega, by omega, fun k h => by omega, fun k h1 h2 => by omega⟩ ⟨⟨rfl, rfl, rfl, rfl, rfl, rfl, trivial⟩, rfl, rfl, rfl⟩ (fun _ _ => Ln _) (fun s hs => ?_)
 obtain ⟨i, j⟩ := s;obtain ⟨h1, h2, h3, h4⟩ := hs
 simp only at h1 h2 h3 h4
 refine ifP (fun h => ?_) (fun h => ?_)
 ·have hlt : i < j := by simp only [Env.c1] at h; unfold Q3 at h; simpa using h
  refine Z19 (x := Qm0 ((i + j) / 2)) (by rw [Qtp i j (by omega) h2]; exact Qel _ (by omega)) ?_;refine Wz (Qke _ _ _ _ _ n) (.cons (.agg' (.cons (.p _) (.cons (.p _) (.cons (.p _) (.cons (.p _) (.cons (.p _) .nil)))))) (.cons (.p _) .nil)) ?_;refine ifP (fun hc => ?_) (fun hc => ?_)
  ·have hc : Q46 ((i + j) / 2) < n := by simp only [Env.c1] at hc; unfold Q3 at hc; exact (Qoz (Q1i ((i + j) / 2)).1 n).1 (by simpa using hc)
   refine ⟨((i + j) / 2 + 1, j), ⟨by omega, h2, fun k hk => ?_, h4⟩, by simp only; omega, ⟨rfl, rfl, rfl, rfl, ?_, rfl, trivial⟩, rfl, rfl, rfl⟩
   ·by_cases hk2 : k = (i + j) / 2
    ·rw [hk2]; exact hc
    have := Qg9 k (by omega) ((i + j) / 2) (by omega) (by omega); omega
   rw [Qtp i j (by omega) h2, IntWalk.i64_in _ (by omega)]; rfl
  have hc : n ≤ Q46 ((i + j) / 2) := by
   simp only [Env.c1] at hc; unfold Q3 at hc;have := (not_congr (Qoz (Q1i ((i + j) / 2)).1 n)).1 (by simpa using hc);unfold Q46;omega
  refine ⟨(i, (i + j) / 2), ⟨by simp only; omega, by simp only; omega, h3, fun k hk1 hk2 => ?_⟩, by simp only; omega, ⟨rfl, rfl, rfl, rfl, rfl, ?_, trivial⟩, rfl, rfl, rfl⟩
  ·by_cases hk : k = (i + j) / 2
   ·rw [hk]; exact hc
   simp only at hk1
   have := Qg9 ((i + j) / 2) (by omega) k (by omega) (by omega); omega
  rw [Qtp i j (by omega) h2]
 have hij : i = j := by simp only [Env.c1] at h; unfold Q3 at h; simp at h; omega
 subst hij;have hb := Z3d n i h2 h3 h4;refine ifP (fun hlt => ?_) (fun hlt => ?_)
 ·have hlt : i < 40 := by simp only [Env.c1] at hlt; unfold Q3 at hlt; simp at hlt; omega
  refine Z19 (x := Qm0 i) (Qel _ hlt) ?_;refine Wz (Qke _ _ _ _ _ n) (.cons (.agg' (.cons (.p _) (.cons (.p _) (.cons (.p _) (.cons (.p _) (.cons (.p _) .nil)))))) (.cons (.p _) .nil)) ?_;refine Frz.tuple' (.cons (Qe5 ?_) (.cons (Qe5 ?_) .nil))
  ·rw [hb]
  simp only [Env.c1]; unfold Q3;simp only [hb, hlt, decide_true, Ci, PV.bool.injEq];rw [Bool.eq_iff_iff];simp only [beq_iff_eq, decide_eq_true_eq];exact Qv4 _ _
 have hge : ¬ i < 40 := by simp only [Env.c1] at hlt; unfold Q3 at hlt; simp at hlt; omega
 refine Frz.tuple' (.cons (Qe5 ?_) (.cons (Qe5 ?_) .nil))
 ·rw [hb]
 rw [hb]; simp [hge]
end
end Go.Av
namespace Go.Av
noncomputable section
open Go.Proofs
set_option maxRecDepth 1000000
noncomputable def Z3p (f : Nat) : Option CFunc := (Qva[f]?).join
noncomputable def knT : Know2 := ⟨Z3p, fun _ _ => none, fun _ _ _ => none⟩
def Qkd (P : Program) : Nat → List (Option CFunc) → Bool
 | _, [] => true
 | n, none :: r => Qkd P (n + 1) r
 | n, some c :: r => Q1a P n c && Qkd P (n + 1) r
theorem Qaf {P : Program} : ∀ (l : List (Option CFunc)) (n : Nat), Qkd P n l = true → ∀ i c, l[i]? = some (some c) → Q1a P (n + i) c = true
 | [], n, h, i, c, hi => by simp at hi
 | none :: r, n, h, i, c, hi => by
  cases i with
  | zero => simp at hi
  | succ i => have := Qaf r (n + 1) h i c (by simpa using hi); rwa [show n + (i + 1) = n + 1 + i by omega]
 | some d :: r, n, h, i, c, hi => by
  simp only [Qkd, La] at h
  cases i with
  | zero => simp at hi; subst hi; exact h.1
  | succ i => have := Qaf r (n + 1) h.2 i c (by simpa using hi); rwa [show n + (i + 1) = n + 1 + i by omega]
theorem Ziy : Qkd Tryz.prog 0 Qva = true := by kernel_rfl
theorem Qtf (f : Nat) (cf : CFunc) (h : Z3p f = some cf) : Q1a Tryz.prog f cf = true := by
 unfold Z3p at h
 have : Qva[f]? = some (some cf) := by
  cases hc : Qva[f]? with
  | none => rw [hc] at h; cases h
  | some o => rw [hc] at h; simp at h; rw [h]
 simpa using Qaf Qva 0 Ziy f cf this
theorem Z1o : KnowOk2 Tryz.prog G1 knT := ⟨Qtf, fun _ _ _ h => (by cases h), fun _ _ _ _ h => (by cases h)⟩
theorem Qf6 : Gt Tryz.prog G1 179 [] Qsv := Qe Z1o (N := 1000) (d := 40) (by kernel_rfl)
def Qyu : Nat → List PV → Option PV
 | 179, [] => some Qsv
 | _, _ => none
noncomputable def Ze6 : Know2 := ⟨Z3p, Qyu, fun _ _ _ => none⟩
theorem Vo : KnowOk2 Tryz.prog G1 Ze6 := by
 refine ⟨Qtf, fun f args r h => ?_, fun _ _ _ _ h => (by cases h)⟩;simp only [Ze6] at h;unfold Qyu at h;split at h
 ·cases h; exact Qf6
 cases h
end
end Go.Av
