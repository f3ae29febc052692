/- Part of the proof of EventCopies: for every input the law returns true; no condition. -/
import Derived.Test.YtnbdhlnkhdhohaaGreatDoorC16of
namespace Go.Av
noncomputable section
open Go.Proofs
set_option maxRecDepth 100000
attribute [local irreducible] Vn Xj Q89 Qcy Qry Qrt
def ofB (n : Int) : Bool := decide (bsI n < 40) && decide (Q4b (bsI n) = n)
def ofC (n : Int) : List PV := if ofB n = true then Qlh (bsI n) else Qnk 0 0 0 false false
theorem Z1l (n : Int) : Gv Tryz.prog G1 145 [.int .i64 n] (.tuple [.agg (ofC n), .bool (ofB n)]) := by
 refine Q2 Zcl ?_;refine Wu Qgl .nil ?_;refine Wu (Z2d n) (.cons (.p _) (.cons (.p _) (.cons (.p _) .nil))) ?_;refine ifP (fun h => ?_) (fun h => ?_)
 ·have hb : ofB n = false := by unfold ofB; revert h; cases (decide (bsI n < 40) && decide (Q4b (bsI n) = n)) <;> simp
  refine Frz.tuple' (.cons (.agg' ?_) (.cons (Qe8 ?_) .nil))
  ·simp only [ofC, hb, Lm, if_false, Qnk];exact .cons (.p _) (.cons (.p _) (.cons (.p _) (.cons (.p _) (.cons (.p _) .nil))))
  rw [hb]
 have hb : ofB n = true := by unfold ofB; revert h; cases (decide (bsI n < 40) && decide (Q4b (bsI n) = n)) <;> simp
 have hlt : bsI n < 40 := by simp only [ofB, La, decide_eq_true_eq] at hb; exact hb.1
 refine Z1h (x := Qlh (bsI n)) (Qer _ hlt) ?_;refine Frz.tuple' (.cons (.agg' ?_) (.cons (Qe8 ?_) .nil))
 ·simp only [ofC, hb, if_true, Qlh, Qnk];exact .cons (.p _) (.cons (.p _) (.cons (.p _) (.cons (.p _) (.cons (.p _) .nil))))
 rw [hb]
def ofT (n : Int) : Int × Int × Int × Bool × Bool := if ofB n = true then Q1v (bsI n) else (0, 0, 0, false, false)
def ofR (n : Int) : List PV := Qnk (ofT n).1 (ofT n).2.1 (ofT n).2.2.1 (ofT n).2.2.2.1 (ofT n).2.2.2.2
theorem Z26 (n : Int) : ofC n = ofR n := by
 unfold ofC ofR ofT
 split <;> rfl
theorem Qzk (n : Int) : Gv Tryz.prog G1 145 [.int .i64 n] (.tuple [.agg (ofR n), .bool (ofB n)]) := by
 rw [← Z26]; exact Z1l n
end
end Go.Av
namespace Go.Av
noncomputable section
open Go.Proofs
set_option maxRecDepth 100000
attribute [local irreducible] Vn Xj Q89 Qcy Qry Qrt
def Qe4 (k : Int) : List Int := (List.range 17).flatMap fun (w : Nat) => (tabL.filter fun r => r.2.1 == k && r.2.2.1 == (w : Int)).map (·.1)
def Wq (k : Int) : PV := match Qe4 k with
 | [] => .nilSlice
 | c :: l => .slice 1 ((c :: l).map fun c => [.int .i64 c])
def Qox (k : Nat) : Int := (Q1v k).2.1
theorem Qqz : ∀ k, k < 40 → 1 ≤ Qox k ∧ Qox k ≤ 25 := by decide +kernel
theorem Qhv (k : Int) (h : k < 1 ∨ 25 < k) : Qe4 k = [] := by
 unfold Qe4;rw [List.flatMap_eq_nil_iff];intro w _;rw [List.map_eq_nil_iff, List.filter_eq_nil_iff];intro r hr
 have hall : (tabL.all fun r => decide (1 ≤ r.2.1 ∧ r.2.1 ≤ 25)) = true := by decide +kernel
 have := Lw.1 hall r hr;simp only [decide_eq_true_eq] at this;simp only [La, beq_iff_eq, not_and];intro h1;omega
theorem Qmu : Gv Tryz.prog G1 227 [.nilSlice, .func (.func 228) [] []] (.tuple []) := Qg Vg (N := 1000) (d := 40) (by kernel_rfl)
def coT (kind : Int) (i : Nat) : List AV := .p (.int .i64 kind) :: .any :: .any :: .p .nilSlice :: .any :: .any :: .any :: .any :: .any :: .p Qsk :: .p (.int .i64 40) :: .p (.int .i64 i) :: List.replicate 27 .any
def coU (_ : Unit) : List AV := .any :: .any :: .any :: .any :: .any :: .any :: .p .nilSlice :: .any :: .any :: .any :: .any :: .any :: .any :: .any :: .any :: .any :: .any :: .any :: .any :: .any :: .any :: .any :: .any :: .any :: .any :: .any :: .any :: .p (.int .i64 0) :: .p (.int .i64 0) :: List.replicate 10 .any
theorem Quk (kind : Int) (h : kind < 1 ∨ 25 < kind) : Gv Tryz.prog G1 177 [.int .i64 kind] .nilSlice := by
 refine Q2 Zgk ?_;refine Wu Qgl .nil ?_;refine Qgf (coT kind) (fun _ => []) (fun i => i ≤ 40) (fun i => 40 - i) 0 (Mm _) ⟨⟨rfl, rfl, rfl, rfl, rfl, trivial⟩, rfl, rfl, rfl⟩ (fun _ _ => Lp _) (fun i hi => ?_);refine ifP (fun hc => ?_) (fun hc => ?_)
 ·have hlt : i < 40 := by simp only [Env.c1] at hc; unfold Q3 at hc; simp at hc; omega
  refine Z1h (x := Qlh i) (Qer _ hlt) ?_;refine ifP (fun hk => ?_) (fun hk => ?_)
  ·exfalso;simp only [Env.c1] at hk; unfold Q3 at hk
   have hk : Qox i = kind := by simpa [Qox] using hk
   have := Qqz i hlt;omega
  refine ⟨i + 1, by show i + 1 ≤ 40; omega, by show 40 - (i + 1) < 40 - i; omega, ⟨rfl, rfl, rfl, rfl, ?_, trivial⟩, rfl, rfl, rfl⟩;rw [IntWalk.i64_in ((i : Int) + 1) (by omega)]; rfl
 refine Wu Qmu (.cons (.p _) (.cons (.p _) .nil)) ?_;refine Qgf coU (fun _ => []) (fun _ => True) (fun _ => 0) () trivial ⟨⟨rfl, rfl, rfl, trivial⟩, rfl, rfl, rfl⟩ (fun _ _ => Lp _) (fun i hi => ?_);refine ifF (cF (by decide)) ?_;exact Qe8 rfl
end
end Go.Av
namespace Go.Av
noncomputable section
open Go.Proofs
set_option maxRecDepth 1000000
theorem Z0z : Gv Tryz.prog G1 177 [.int .i64 1] (Wq 1) := Qg Vg (N := 1000) (d := 40) (by kernel_rfl)
theorem Qzp : Gv Tryz.prog G1 177 [.int .i64 2] (Wq 2) := Qg Vg (N := 1000) (d := 40) (by kernel_rfl)
theorem Qzh : Gv Tryz.prog G1 177 [.int .i64 3] (Wq 3) := Qg Vg (N := 1000) (d := 40) (by kernel_rfl)
theorem Z0r : Gv Tryz.prog G1 177 [.int .i64 4] (Wq 4) := Qg Vg (N := 1000) (d := 40) (by kernel_rfl)
theorem Z0h : Gv Tryz.prog G1 177 [.int .i64 5] (Wq 5) := Qg Vg (N := 1000) (d := 40) (by kernel_rfl)
theorem Z0u : Gv Tryz.prog G1 177 [.int .i64 6] (Wq 6) := Qg Vg (N := 1000) (d := 40) (by kernel_rfl)
theorem Qzf : Gv Tryz.prog G1 177 [.int .i64 7] (Wq 7) := Qg Vg (N := 1000) (d := 40) (by kernel_rfl)
theorem Z1d : Gv Tryz.prog G1 177 [.int .i64 8] (Wq 8) := Qg Vg (N := 1000) (d := 40) (by kernel_rfl)
theorem Qzt : Gv Tryz.prog G1 177 [.int .i64 9] (Wq 9) := Qg Vg (N := 1000) (d := 40) (by kernel_rfl)
theorem Qyg : Gv Tryz.prog G1 177 [.int .i64 10] (Wq 10) := Qg Vg (N := 1000) (d := 40) (by kernel_rfl)
theorem Qy3 : Gv Tryz.prog G1 177 [.int .i64 11] (Wq 11) := Qg Vg (N := 1000) (d := 40) (by kernel_rfl)
theorem Qw4 : Gv Tryz.prog G1 177 [.int .i64 12] (Wq 12) := Qg Vg (N := 1000) (d := 40) (by kernel_rfl)
theorem Qy0 : Gv Tryz.prog G1 177 [.int .i64 13] (Wq 13) := Qg Vg (N := 1000) (d := 40) (by kernel_rfl)
theorem Qx2 : Gv Tryz.prog G1 177 [.int .i64 14] (Wq 14) := Qg Vg (N := 1000) (d := 40) (by kernel_rfl)
theorem Qwd : Gv Tryz.prog G1 177 [.int .i64 15] (Wq 15) := Qg Vg (N := 1000) (d := 40) (by kernel_rfl)
theorem Qvv : Gv Tryz.prog G1 177 [.int .i64 16] (Wq 16) := Qg Vg (N := 1000) (d := 40) (by kernel_rfl)
theorem Qw9 : Gv Tryz.prog G1 177 [.int .i64 17] (Wq 17) := Qg Vg (N := 1000) (d := 40) (by kernel_rfl)
theorem Qxh : Gv Tryz.prog G1 177 [.int .i64 18] (Wq 18) := Qg Vg (N := 1000) (d := 40) (by kernel_rfl)
theorem Qvw : Gv Tryz.prog G1 177 [.int .i64 19] (Wq 19) := Qg Vg (N := 1000) (d := 40) (by kernel_rfl)
theorem Qwr : Gv Tryz.prog G1 177 [.int .i64 20] (Wq 20) := Qg Vg (N := 1000) (d := 40) (by kernel_rfl)
theorem Qwq : Gv Tryz.prog G1 177 [.int .i64 21] (Wq 21) := Qg Vg (N := 1000) (d := 40) (by kernel_rfl)
theorem Qvn : Gv Tryz.prog G1 177 [.int .i64 22] (Wq 22) := Qg Vg (N := 1000) (d := 40) (by kernel_rfl)
theorem Qy1 : Gv Tryz.prog G1 177 [.int .i64 23] (Wq 23) := Qg Vg (N := 1000) (d := 40) (by kernel_rfl)
theorem Qw5 : Gv Tryz.prog G1 177 [.int .i64 24] (Wq 24) := Qg Vg (N := 1000) (d := 40) (by kernel_rfl)
theorem Qwi : Gv Tryz.prog G1 177 [.int .i64 25] (Wq 25) := Qg Vg (N := 1000) (d := 40) (by kernel_rfl)
theorem Qvg (kind : Int) : Gv Tryz.prog G1 177 [.int .i64 kind] (Wq kind) := by
 by_cases h : kind < 1 ∨ 25 < kind
 ·have := Quk kind h;rw [Wq, Qhv kind h]; exact this
 have h1 : 1 ≤ kind := by omega
 have h2 : kind ≤ 25 := by omega
 have h3 : kind = 1 ∨ kind = 2 ∨ kind = 3 ∨ kind = 4 ∨ kind = 5 ∨ kind = 6 ∨ kind = 7 ∨ kind = 8 ∨ kind = 9 ∨ kind = 10 ∨ kind = 11 ∨ kind = 12 ∨ kind = 13 ∨ kind = 14 ∨ kind = 15 ∨ kind = 16 ∨ kind = 17 ∨ kind = 18 ∨ kind = 19 ∨ kind = 20 ∨ kind = 21 ∨ kind = 22 ∨ kind = 23 ∨ kind = 24 ∨ kind = 25 := by omega
 clear h h1 h2
 rcases h3 with rfl | rfl | rfl | rfl | rfl | rfl | rfl | rfl | rfl | rfl | rfl | rfl | rfl | rfl | rfl | rfl | rfl | rfl | rfl | rfl | rfl | rfl | rfl | rfl | rfl
 ·exact Z0z
 ·exact Qzp
 ·exact Qzh
 ·exact Z0r
 ·exact Z0h
 ·exact Z0u
 ·exact Qzf
 ·exact Z1d
 ·exact Qzt
 ·exact Qyg
 ·exact Qy3
 ·exact Qw4
 ·exact Qy0
 ·exact Qx2
 ·exact Qwd
 ·exact Qvv
 ·exact Qw9
 ·exact Qxh
 ·exact Qvw
 ·exact Qwr
 ·exact Qwq
 ·exact Qvn
 ·exact Qy1
 ·exact Qw5
 exact Qwi
end
end Go.Av
