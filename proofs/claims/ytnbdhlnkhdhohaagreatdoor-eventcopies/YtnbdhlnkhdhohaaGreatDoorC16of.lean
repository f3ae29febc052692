/- Part of the proof of EventCopies: for every input the law returns true; no condition. -/
import Derived.Test.YtnbdhlnkhdhohaaGreatDoorAvTac
import Derived.Test.YtnbdhlnkhdhohaaGreatDoorChks
import Derived.Test.YtnbdhlnkhdhohaaGreatDoorSeat1
import Derived.Test.YtnbdhlnkhdhohaaGreatDoorAvClosed4
namespace Go.Av
noncomputable section
open Go.Proofs
set_option maxRecDepth 100000
attribute [local irreducible] Vn Xj Q89 Qcy Qry Qrt
def Qws (x y : Int) : Int := if x < y then -1 else if x > y then 1 else 0
theorem Qks (x : Int) : Gv Tryz.prog G1 233 [.int .i64 x] (.bool false) := by
 refine Q2 Zcs ?_;refine Qe8 ?_;simp only [Env.c1]; unfold Q3;simp
theorem Qna (x y : Int) : Gv Tryz.prog G1 182 [.int .i64 x, .int .i64 y] (.int .i64 (Qws x y)) := by
 refine Q2 Zgt ?_;refine Wu (Qks x) (.cons (.p _) .nil) ?_;refine Wu (Qks y) (.cons (.p _) .nil) ?_;refine ifP (fun h => ?_) (fun h => ?_)
 ·refine Qe8 ?_;simp only [Env.c1] at h; unfold Q3 at h;simp at h;simp [Qws, h]
 refine ifP (fun h2 => ?_) (fun h2 => ?_)
 ·refine Qe8 ?_;simp only [Env.c1] at h h2; unfold Q3 at h h2;simp at h h2;simp [Qws, h2]; omega
 refine Qe8 ?_;simp only [Env.c1] at h h2; unfold Q3 at h h2;simp at h h2;simp [Qws]; omega
def Qnk (c k w : Int) (s i : Bool) : List PV := [.int .i64 c, .int .i64 k, .int .i64 w, .bool s, .bool i]
theorem Qm9 (c k w : Int) (s i : Bool) (n : Int) : Gv Tryz.prog G1 181 [.agg (Qnk c k w s i), .int .i64 n] (.int .i64 (Qws c n)) := by
 refine Q2 Zgo ?_;refine Wu (Qna c n) (.cons (.p _) (.cons (.p _) .nil)) ?_;exact Qe8 rfl
def tabL : List (Int × Int × Int × Bool × Bool) := [(0, 25, 0, false, true), (64, 1, 0, false, false), (65, 2, 0, false, false), (66, 2, 0, false, false), (67, 5, 0, false, false), (68, 6, 0, false, false), (69, 22, 0, false, true), (80, 3, 1, false, false), (81, 7, 1, false, false), (82, 5, 1, false, false), (83, 6, 1, false, false), (84, 9, 1, false, false), (85, 10, 1, false, false), (86, 2, 1, false, false), (96, 4, 2, false, false), (97, 8, 2, false, false), (112, 5, 4, false, false), (113, 9, 4, false, false), (114, 11, 4, false, false), (115, 16, 4, false, false), (116, 13, 4, false, false), (128, 6, 8, false, false), (129, 10, 8, false, false), (130, 12, 8, false, false), (131, 17, 8, false, false), (132, 14, 8, false, false), (148, 15, 16, false, false), (152, 18, 16, false, false), (160, 19, 1, true, false), (161, 20, 1, true, false), (163, 21, 1, true, false), (176, 19, 4, true, false), (177, 20, 4, true, false), (179, 21, 4, true, false), (192, 22, 1, true, true), (193, 23, 1, true, true), (208, 22, 4, true, true), (209, 23, 4, true, true), (224, 24, 1, true, true), (240, 24, 4, true, true)]
def Q1v (k : Nat) : Int × Int × Int × Bool × Bool := tabL.getD k (0, 0, 0, false, false)
def Q4b (k : Nat) : Int := (Q1v k).1
def Qlh (k : Nat) : List PV := Qnk (Q1v k).1 (Q1v k).2.1 (Q1v k).2.2.1 (Q1v k).2.2.2.1 (Q1v k).2.2.2.2
def Z4n : List (List PV) := tabL.map fun (a, b, c, d, e) => Qnk a b c d e
def Qsk : PV := .slice 5 Z4n
theorem Qer (k : Nat) (h : k < 40) : Z4n[k]? = some (Qlh k) := by
 have hl : tabL.length = 40 := rfl;unfold Z4n Qlh Q1v;rw [Ln, Lf, Ld (by omega)];rfl
theorem Qfb : ∀ a, a < 40 → ∀ b, b < 40 → a < b → Q4b a < Q4b b := by decide +kernel
def bsI (n : Int) : Nat := ((List.range 40).filter fun k => Q4b k < n).length
theorem Z2e (n : Int) (i : Nat) (hi : i ≤ 40) (h1 : ∀ k, k < i → Q4b k < n) (h2 : ∀ k, i ≤ k → k < 40 → n ≤ Q4b k) : bsI n = i := by
 unfold bsI
 have e : List.range 40 = List.range i ++ (List.range (40 - i)).map (i + ·) := by
  rw [← List.range_add]; congr 1; omega
 rw [e, List.filter_append, Lg, List.filter_eq_self.2, List.length_range, List.filter_eq_nil_iff.2]
 ·rfl
 ·intro k hk;simp only [Nb, Bu] at hk;obtain ⟨j, hj, rfl⟩ := hk;have := h2 (i + j) (by omega) (by omega)
  simp; omega
 intro k hk;simpa using h1 k (by simpa using hk)
def bsT (n : Int) (s : Nat × Nat) : List AV := .p Qsk :: .p (.int .i64 n) :: .p (.func (.func 181) [] []) :: .any :: .any :: .any :: .any :: .any :: .p (.int .i64 40) :: .p (.int .i64 s.1) :: .p (.int .i64 s.2) :: List.replicate 38 .any
theorem Qt1 (i j : Nat) (hi : i ≤ 40) (hj : j ≤ 40) : IntKind.i64.wrap ((IntKind.u64.wrap (IntKind.i64.wrap ((i : Int) + j))).fdiv (2 ^ min (Int.toNat 1) IntKind.u64.bits)) = (((i + j) / 2 : Nat) : Int) := by
 have e1 : IntKind.i64.wrap ((i : Int) + j) = ((i + j : Nat) : Int) := by rw [IntWalk.i64_in _ (by omega)]; push_cast; rfl
 have e2 : IntKind.u64.wrap (((i + j : Nat)) : Int) = ((i + j : Nat) : Int) := by simp only [IntKind.wrap, IntKind.bits, IntKind.signed]; simp; omega
 have e3 : (2 : Int) ^ min (Int.toNat 1) IntKind.u64.bits = 2 := rfl;rw [e1, e2, e3, Int.fdiv_eq_ediv_of_nonneg _ (by omega), IntWalk.i64_in _ (by omega)];omega
theorem Qou (x y : Int) : Qws x y < 0 ↔ x < y := by unfold Qws; split <;> (try split) <;> omega
theorem Qt7 (x y : Int) : Qws x y = 0 ↔ x = y := by unfold Qws; split <;> (try split) <;> omega
theorem Z2d (n : Int) : Gv Tryz.prog G1 180 [Qsk, .int .i64 n, .func (.func 181) [] []]
  (.tuple [.int .i64 (bsI n), .bool (decide (bsI n < 40) && decide (Q4b (bsI n) = n))]) := by
 refine Q2 Z9l ?_;refine Qgf (bsT n) (fun _ => []) (fun s => s.1 ≤ s.2 ∧ s.2 ≤ 40 ∧ (∀ k, k < s.1 → Q4b k < n) ∧ ∀ k, s.2 ≤ k → k < 40 → n ≤ Q4b k) (fun s => s.2 - s.1) (0, 40)
  ⟨by omega, by omega, fun k h => by omega, fun k h1 h2 => by omega⟩ ⟨⟨rfl, rfl, rfl, rfl, rfl, rfl, trivial⟩, rfl, rfl, rfl⟩ (fun _ _ => Lp _) (fun s hs => ?_)
 obtain ⟨i, j⟩ := s;obtain ⟨h1, h2, h3, h4⟩ := hs
 simp only at h1 h2 h3 h4
 refine ifP (fun h => ?_) (fun h => ?_)
 ·have hlt : i < j := by simp only [Env.c1] at h; unfold Q3 at h; simpa using h
  refine Z1h (x := Qlh ((i + j) / 2)) (by rw [Qt1 i j (by omega) h2]; exact Qer _ (by omega)) ?_;refine Wu (Qm9 _ _ _ _ _ n) (.cons (.agg' (.cons (.p _) (.cons (.p _) (.cons (.p _) (.cons (.p _) (.cons (.p _) .nil)))))) (.cons (.p _) .nil)) ?_;refine ifP (fun hc => ?_) (fun hc => ?_)
  ·have hc : Q4b ((i + j) / 2) < n := by simp only [Env.c1] at hc; unfold Q3 at hc; exact (Qou (Q1v ((i + j) / 2)).1 n).1 (by simpa using hc)
   refine ⟨((i + j) / 2 + 1, j), ⟨by omega, h2, fun k hk => ?_, h4⟩, by simp only; omega, ⟨rfl, rfl, rfl, rfl, ?_, rfl, trivial⟩, rfl, rfl, rfl⟩
   ·by_cases hk2 : k = (i + j) / 2
    ·rw [hk2]; exact hc
    have := Qfb k (by omega) ((i + j) / 2) (by omega) (by omega); omega
   rw [Qt1 i j (by omega) h2, IntWalk.i64_in _ (by omega)]; rfl
  have hc : n ≤ Q4b ((i + j) / 2) := by
   simp only [Env.c1] at hc; unfold Q3 at hc;have := (not_congr (Qou (Q1v ((i + j) / 2)).1 n)).1 (by simpa using hc);unfold Q4b;omega
  refine ⟨(i, (i + j) / 2), ⟨by simp only; omega, by simp only; omega, h3, fun k hk1 hk2 => ?_⟩, by simp only; omega, ⟨rfl, rfl, rfl, rfl, rfl, ?_, trivial⟩, rfl, rfl, rfl⟩
  ·by_cases hk : k = (i + j) / 2
   ·rw [hk]; exact hc
   simp only at hk1
   have := Qfb ((i + j) / 2) (by omega) k (by omega) (by omega); omega
  rw [Qt1 i j (by omega) h2]
 have hij : i = j := by simp only [Env.c1] at h; unfold Q3 at h; simp at h; omega
 subst hij;have hb := Z2e n i h2 h3 h4;refine ifP (fun hlt => ?_) (fun hlt => ?_)
 ·have hlt : i < 40 := by simp only [Env.c1] at hlt; unfold Q3 at hlt; simp at hlt; omega
  refine Z1h (x := Qlh i) (Qer _ hlt) ?_;refine Wu (Qm9 _ _ _ _ _ n) (.cons (.agg' (.cons (.p _) (.cons (.p _) (.cons (.p _) (.cons (.p _) (.cons (.p _) .nil)))))) (.cons (.p _) .nil)) ?_;refine Frz.tuple' (.cons (Qe8 ?_) (.cons (Qe8 ?_) .nil))
  ·rw [hb]
  simp only [Env.c1]; unfold Q3;simp only [hb, hlt, decide_true, Cm, PV.bool.injEq];rw [Cz];simp only [beq_iff_eq, decide_eq_true_eq];exact Qt7 _ _
 have hge : ¬ i < 40 := by simp only [Env.c1] at hlt; unfold Q3 at hlt; simp at hlt; omega
 refine Frz.tuple' (.cons (Qe8 ?_) (.cons (Qe8 ?_) .nil))
 ·rw [hb]
 rw [hb]; simp [hge]
end
end Go.Av
namespace Go.Av
noncomputable section
open Go.Proofs
set_option maxRecDepth 1000000
noncomputable def Z3u (f : Nat) : Option CFunc := (Qvi[f]?).join
noncomputable def knT : Know2 := ⟨Z3u, fun _ _ => none, fun _ _ _ => none⟩
def Qla (P : Program) : Nat → List (Option CFunc) → Bool
 | _, [] => true
 | n, none :: r => Qla P (n + 1) r
 | n, some c :: r => Q1d P n c && Qla P (n + 1) r
theorem Qat {P : Program} : ∀ (l : List (Option CFunc)) (n : Nat), Qla P n l = true → ∀ i c, l[i]? = some (some c) → Q1d P (n + i) c = true
 | [], n, h, i, c, hi => by simp at hi
 | none :: r, n, h, i, c, hi => by
  cases i with
  | zero => simp at hi
  | succ i => have := Qat r (n + 1) h i c (by simpa using hi); rwa [show n + (i + 1) = n + 1 + i by omega]
 | some d :: r, n, h, i, c, hi => by
  simp only [Qla, La] at h
  cases i with
  | zero => simp at hi; subst hi; exact h.1
  | succ i => have := Qat r (n + 1) h.2 i c (by simpa using hi); rwa [show n + (i + 1) = n + 1 + i by omega]
theorem Zhh : Qla Tryz.prog 0 Qvi = true := by kernel_rfl
theorem Qtx (f : Nat) (cf : CFunc) (h : Z3u f = some cf) : Q1d Tryz.prog f cf = true := by
 unfold Z3u at h
 have : Qvi[f]? = some (some cf) := by
  cases hc : Qvi[f]? with
  | none => rw [hc] at h; cases h
  | some o => rw [hc] at h; simp at h; rw [h]
 simpa using Qat Qvi 0 Zhh f cf this
theorem Z1w : KnowOk2 Tryz.prog G1 knT := ⟨Qtx, fun _ _ _ h => (by cases h), fun _ _ _ _ h => (by cases h)⟩
theorem Qgl : Gv Tryz.prog G1 179 [] Qsk := Qg Z1w (N := 1000) (d := 40) (by kernel_rfl)
def Qz7 : Nat → List PV → Option PV
 | 179, [] => some Qsk
 | _, _ => none
noncomputable def Zdx : Know2 := ⟨Z3u, Qz7, fun _ _ _ => none⟩
theorem Vg : KnowOk2 Tryz.prog G1 Zdx := by
 refine ⟨Qtx, fun f args r h => ?_, fun _ _ _ _ h => (by cases h)⟩;simp only [Zdx] at h;unfold Qz7 at h;split at h
 ·cases h; exact Qgl
 cases h
end
end Go.Av
