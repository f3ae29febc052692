/- The law. Part of a proof of a given statement: for every input the law returns true and the arguments read as before; no condition beyond the given row. -/
import Derived.Test.YtkemhhfbpniioaaGreatDoorTab16
namespace Go.Av
noncomputable section
open Go.Proofs
set_option maxRecDepth 100000
attribute [local irreducible] Ug Xt Q7v Q9n Q8
def ofB (n : Int) : Bool := decide (bsI n < 40) && decide (J8 (bsI n) = n)
def ofC (n : Int) : List PV := if ofB n = true then Qdu (bsI n) else Qg2 0 0 0 false false
theorem Qru (n : Int) : Zo Tryz.prog G1 107 [.int .i64 n] (.tuple [.agg (ofC n), .bool (ofB n)]) := by
 refine Q3 Qwg ?_
 refine Vw Q89 .nil ?_
 refine Vw (Qs1 n) (.cons (.p _) (.cons (.p _) (.cons (.p _) .nil))) ?_
 refine ifP (fun h => ?_) (fun h => ?_)
 ·have hb : ofB n = false := by unfold ofB; revert h; cases (decide (bsI n < 40) && decide (J8 (bsI n) = n)) <;> simp
  refine Frz.tuple' (.cons (.agg' ?_) (.cons (Q7s ?_) .nil))
  ·simp only [ofC, hb, Bool.false_eq_true, if_false, Qg2]
   exact .cons (.p _) (.cons (.p _) (.cons (.p _) (.cons (.p _) (.cons (.p _) .nil))))
  ·rw [hb]
 ·have hb : ofB n = true := by unfold ofB; revert h; cases (decide (bsI n < 40) && decide (J8 (bsI n) = n)) <;> simp
  have hlt : bsI n < 40 := by simp only [ofB, Bool.and_eq_true, decide_eq_true_eq] at hb; exact hb.1
  refine Qrj (x := Qdu (bsI n)) (Q80 _ hlt) ?_
  refine Frz.tuple' (.cons (.agg' ?_) (.cons (Q7s ?_) .nil))
  ·simp only [ofC, hb, if_true, Qdu, Qg2]
   exact .cons (.p _) (.cons (.p _) (.cons (.p _) (.cons (.p _) (.cons (.p _) .nil))))
  ·rw [hb]
def ofT (n : Int) : Int × Int × Int × Bool × Bool := if ofB n = true then Vb (bsI n) else (0, 0, 0, false, false)
def ofR (n : Int) : List PV := Qg2 (ofT n).1 (ofT n).2.1 (ofT n).2.2.1 (ofT n).2.2.2.1 (ofT n).2.2.2.2
theorem Qsq (n : Int) : ofC n = ofR n := by
 unfold ofC ofR ofT
 split <;> rfl
theorem Qr6 (n : Int) : Zo Tryz.prog G1 107 [.int .i64 n] (.tuple [.agg (ofR n), .bool (ofB n)]) := by
 rw [← Qsq]; exact Qru n
end
end Go.Av
namespace Go.Av
noncomputable section
open Go.Proofs
set_option maxRecDepth 100000
attribute [local irreducible] Ug Xt Q7v Q9n Q8
def Vl (k : Int) : List Int := (List.range 17).flatMap fun (w : Nat) => (tabL.filter fun r => r.2.1 == k && r.2.2.1 == (w : Int)).map (·.1)
def Xw (k : Int) : PV := match Vl k with
 | [] => .nilSlice
 | c :: l => .slice 1 ((c :: l).map fun c => [.int .i64 c])
def Qhr (k : Nat) : Int := (Vb k).2.1
theorem Qii : ∀ k, k < 40 → 1 ≤ Qhr k ∧ Qhr k ≤ 25 := by decide +kernel
theorem Q49 (k : Int) (h : k < 1 ∨ 25 < k) : Vl k = [] := by
 unfold Vl
 rw [List.flatMap_eq_nil_iff]
 intro w _
 rw [List.map_eq_nil_iff, List.filter_eq_nil_iff]
 intro r hr
 have hall : (tabL.all fun r => decide (1 ≤ r.2.1 ∧ r.2.1 ≤ 25)) = true := by decide +kernel
 have := List.all_eq_true.1 hall r hr
 simp only [decide_eq_true_eq] at this
 simp only [Bool.and_eq_true, beq_iff_eq, not_and]
 intro h1
 omega
theorem Qfc : Zo Tryz.prog G1 139 [.nilSlice, .func (.func 140) [] []] (.tuple []) := Qj Wj (N := 1000) (d := 40) (by kernel_rfl)
def coT (kind : Int) (i : Nat) : List AV := .p (.int .i64 kind) :: .any :: .any :: .p .nilSlice :: .any :: .any :: .any :: .any :: .any :: .p Qk4 :: .p (.int .i64 40) :: .p (.int .i64 i) :: List.replicate 27 .any
def coU (_ : Unit) : List AV := .any :: .any :: .any :: .any :: .any :: .any :: .p .nilSlice :: .any :: .any :: .any :: .any :: .any :: .any :: .any :: .any :: .any :: .any :: .any :: .any :: .any :: .any :: .any :: .any :: .any :: .any :: .any :: .any :: .p (.int .i64 0) :: .p (.int .i64 0) :: List.replicate 10 .any
theorem Qlb (kind : Int) (h : kind < 1 ∨ 25 < kind) : Zo Tryz.prog G1 117 [.int .i64 kind] .nilSlice := by
 refine Q3 Qvk ?_
 refine Vw Q89 .nil ?_
 refine Q91 (coT kind) (fun _ => []) (fun i => i ≤ 40) (fun i => 40 - i) 0 (Nat.zero_le _) ⟨⟨rfl, rfl, rfl, rfl, rfl, trivial⟩, rfl, rfl, rfl⟩ (fun _ _ => Nat.le_refl _) (fun i hi => ?_)
 refine ifP (fun hc => ?_) (fun hc => ?_)
 ·have hlt : i < 40 := by unfold Q8 at hc; simp at hc; omega
  refine Qrj (x := Qdu i) (Q80 _ hlt) ?_
  refine ifP (fun hk => ?_) (fun hk => ?_)
  ·exfalso
   unfold Q8 at hk
   have hk : Qhr i = kind := by simpa [Qhr] using hk
   have := Qii i hlt
   omega
  ·refine ⟨i + 1, by show i + 1 ≤ 40; omega, by show 40 - (i + 1) < 40 - i; omega, ⟨rfl, rfl, rfl, rfl, ?_, trivial⟩, rfl, rfl, rfl⟩
   rw [IntWalk.i64_in ((i : Int) + 1) (by omega)]; rfl
 ·refine Vw Qfc (.cons (.p _) (.cons (.p _) .nil)) ?_
  refine Q91 coU (fun _ => []) (fun _ => True) (fun _ => 0) () trivial ⟨⟨rfl, rfl, rfl, trivial⟩, rfl, rfl, rfl⟩ (fun _ _ => Nat.le_refl _) (fun i hi => ?_)
  refine ifF (by unfold Q8; decide) ?_
  exact Q7s rfl
end
end Go.Av
namespace Go.Av
noncomputable section
open Go.Proofs
set_option maxRecDepth 1000000
theorem Qq6 : Zo Tryz.prog G1 117 [.int .i64 1] (Xw 1) := Qj Wj (N := 1000) (d := 40) (by kernel_rfl)
theorem Qpm : Zo Tryz.prog G1 117 [.int .i64 2] (Xw 2) := Qj Wj (N := 1000) (d := 40) (by kernel_rfl)
theorem Qqc : Zo Tryz.prog G1 117 [.int .i64 3] (Xw 3) := Qj Wj (N := 1000) (d := 40) (by kernel_rfl)
theorem Qqb : Zo Tryz.prog G1 117 [.int .i64 4] (Xw 4) := Qj Wj (N := 1000) (d := 40) (by kernel_rfl)
theorem Qpy : Zo Tryz.prog G1 117 [.int .i64 5] (Xw 5) := Qj Wj (N := 1000) (d := 40) (by kernel_rfl)
theorem Qpr : Zo Tryz.prog G1 117 [.int .i64 6] (Xw 6) := Qj Wj (N := 1000) (d := 40) (by kernel_rfl)
theorem Qpp : Zo Tryz.prog G1 117 [.int .i64 7] (Xw 7) := Qj Wj (N := 1000) (d := 40) (by kernel_rfl)
theorem Qqe : Zo Tryz.prog G1 117 [.int .i64 8] (Xw 8) := Qj Wj (N := 1000) (d := 40) (by kernel_rfl)
theorem Qqg : Zo Tryz.prog G1 117 [.int .i64 9] (Xw 9) := Qj Wj (N := 1000) (d := 40) (by kernel_rfl)
theorem Qob : Zo Tryz.prog G1 117 [.int .i64 10] (Xw 10) := Qj Wj (N := 1000) (d := 40) (by kernel_rfl)
theorem Qn9 : Zo Tryz.prog G1 117 [.int .i64 11] (Xw 11) := Qj Wj (N := 1000) (d := 40) (by kernel_rfl)
theorem Qnm : Zo Tryz.prog G1 117 [.int .i64 12] (Xw 12) := Qj Wj (N := 1000) (d := 40) (by kernel_rfl)
theorem Qo1 : Zo Tryz.prog G1 117 [.int .i64 13] (Xw 13) := Qj Wj (N := 1000) (d := 40) (by kernel_rfl)
theorem Qne : Zo Tryz.prog G1 117 [.int .i64 14] (Xw 14) := Qj Wj (N := 1000) (d := 40) (by kernel_rfl)
theorem Qmu : Zo Tryz.prog G1 117 [.int .i64 15] (Xw 15) := Qj Wj (N := 1000) (d := 40) (by kernel_rfl)
theorem Qof : Zo Tryz.prog G1 117 [.int .i64 16] (Xw 16) := Qj Wj (N := 1000) (d := 40) (by kernel_rfl)
theorem Qnr : Zo Tryz.prog G1 117 [.int .i64 17] (Xw 17) := Qj Wj (N := 1000) (d := 40) (by kernel_rfl)
theorem Qnw : Zo Tryz.prog G1 117 [.int .i64 18] (Xw 18) := Qj Wj (N := 1000) (d := 40) (by kernel_rfl)
theorem Qo0 : Zo Tryz.prog G1 117 [.int .i64 19] (Xw 19) := Qj Wj (N := 1000) (d := 40) (by kernel_rfl)
theorem Qo7 : Zo Tryz.prog G1 117 [.int .i64 20] (Xw 20) := Qj Wj (N := 1000) (d := 40) (by kernel_rfl)
theorem Qnd : Zo Tryz.prog G1 117 [.int .i64 21] (Xw 21) := Qj Wj (N := 1000) (d := 40) (by kernel_rfl)
theorem Qoa : Zo Tryz.prog G1 117 [.int .i64 22] (Xw 22) := Qj Wj (N := 1000) (d := 40) (by kernel_rfl)
theorem Qol : Zo Tryz.prog G1 117 [.int .i64 23] (Xw 23) := Qj Wj (N := 1000) (d := 40) (by kernel_rfl)
theorem Qmv : Zo Tryz.prog G1 117 [.int .i64 24] (Xw 24) := Qj Wj (N := 1000) (d := 40) (by kernel_rfl)
theorem Qmt : Zo Tryz.prog G1 117 [.int .i64 25] (Xw 25) := Qj Wj (N := 1000) (d := 40) (by kernel_rfl)
theorem Qlf (kind : Int) : Zo Tryz.prog G1 117 [.int .i64 kind] (Xw kind) := by
 by_cases h : kind < 1 ∨ 25 < kind
 ·have := Qlb kind h
  rw [Xw, Q49 kind h]; exact this
 ·have h1 : 1 ≤ kind := by omega
  have h2 : kind ≤ 25 := by omega
  have h3 : kind = 1 ∨ kind = 2 ∨ kind = 3 ∨ kind = 4 ∨ kind = 5 ∨ kind = 6 ∨ kind = 7 ∨ kind = 8 ∨ kind = 9 ∨ kind = 10 ∨ kind = 11 ∨ kind = 12 ∨ kind = 13 ∨ kind = 14 ∨ kind = 15 ∨ kind = 16 ∨ kind = 17 ∨ kind = 18 ∨ kind = 19 ∨ kind = 20 ∨ kind = 21 ∨ kind = 22 ∨ kind = 23 ∨ kind = 24 ∨ kind = 25 := by omega
  clear h h1 h2
  rcases h3 with rfl | rfl | rfl | rfl | rfl | rfl | rfl | rfl | rfl | rfl | rfl | rfl | rfl | rfl | rfl | rfl | rfl | rfl | rfl | rfl | rfl | rfl | rfl | rfl | rfl
  ·exact Qq6
  ·exact Qpm
  ·exact Qqc
  ·exact Qqb
  ·exact Qpy
  ·exact Qpr
  ·exact Qpp
  ·exact Qqe
  ·exact Qqg
  ·exact Qob
  ·exact Qn9
  ·exact Qnm
  ·exact Qo1
  ·exact Qne
  ·exact Qmu
  ·exact Qof
  ·exact Qnr
  ·exact Qnw
  ·exact Qo0
  ·exact Qo7
  ·exact Qnd
  ·exact Qoa
  ·exact Qol
  ·exact Qmv
  ·exact Qmt
end
end Go.Av
