/- The law. Part of a proof of a given statement: for every input the law returns true and the arguments read as before; no condition beyond the given row. -/
import Derived.Test.YtkemhhfbpniioaaGreatDoorTab16
namespace Go.Av
noncomputable section
open Go.Proofs
set_option maxRecDepth 100000
attribute [local irreducible] Vb X2 Q4m Q5l Q8
def ofB (n : Int) : Bool := decide (bsI n < 40) && decide (U6 (bsI n) = n)
def ofC (n : Int) : List PV := if ofB n = true then Qct (bsI n) else Qdf 0 0 0 false false
theorem Qqj (n : Int) : Zj Tryz.prog G1 107 [.int .i64 n] (.tuple [.agg (ofC n), .bool (ofB n)]) := by
 refine Q4 Qts ?_
 refine V6 Q6t .nil ?_
 refine V6 (Qq2 n) (.cons (.p _) (.cons (.p _) (.cons (.p _) .nil))) ?_
 refine ifP (fun h => ?_) (fun h => ?_)
 ·have hb : ofB n = false := by unfold ofB; revert h; cases (decide (bsI n < 40) && decide (U6 (bsI n) = n)) <;> simp
  refine Frz.tuple' (.cons (.agg' ?_) (.cons (Q67 ?_) .nil))
  ·simp only [ofC, hb, Bool.false_eq_true, if_false, Qdf]
   exact .cons (.p _) (.cons (.p _) (.cons (.p _) (.cons (.p _) (.cons (.p _) .nil))))
  ·rw [hb]
 ·have hb : ofB n = true := by unfold ofB; revert h; cases (decide (bsI n < 40) && decide (U6 (bsI n) = n)) <;> simp
  have hlt : bsI n < 40 := by simp only [ofB, Bool.and_eq_true, decide_eq_true_eq] at hb; exact hb.1
  refine Qpy (x := Qct (bsI n)) (Q6j _ hlt) ?_
  refine Frz.tuple' (.cons (.agg' ?_) (.cons (Q67 ?_) .nil))
  ·simp only [ofC, hb, if_true, Qct, Qdf]
   exact .cons (.p _) (.cons (.p _) (.cons (.p _) (.cons (.p _) (.cons (.p _) .nil))))
  ·rw [hb]
def ofT (n : Int) : Int × Int × Int × Bool × Bool := if ofB n = true then Xu (bsI n) else (0, 0, 0, false, false)
def ofR (n : Int) : List PV := Qdf (ofT n).1 (ofT n).2.1 (ofT n).2.2.1 (ofT n).2.2.2.1 (ofT n).2.2.2.2
theorem Qq6 (n : Int) : ofC n = ofR n := by
 unfold ofC ofR ofT
 split <;> rfl
theorem Qpc (n : Int) : Zj Tryz.prog G1 107 [.int .i64 n] (.tuple [.agg (ofR n), .bool (ofB n)]) := by
 rw [← Qq6]; exact Qqj n
end
end Go.Av
namespace Go.Av
noncomputable section
open Go.Proofs
set_option maxRecDepth 100000
attribute [local irreducible] Vb X2 Q4m Q5l Q8
def V7 (k : Int) : List Int := (List.range 17).flatMap fun (w : Nat) => (tabL.filter fun r => r.2.1 == k && r.2.2.1 == (w : Int)).map (·.1)
def Xc (k : Int) : PV := match V7 k with
 | [] => .nilSlice
 | c :: l => .slice 1 ((c :: l).map fun c => [.int .i64 c])
def Qft (k : Nat) : Int := (Xu k).2.1
theorem Qgn : ∀ k, k < 40 → 1 ≤ Qft k ∧ Qft k ≤ 25 := by decide +kernel
theorem Q4v (k : Int) (h : k < 1 ∨ 25 < k) : V7 k = [] := by
 unfold V7
 rw [List.flatMap_eq_nil_iff]
 intro w _
 rw [List.map_eq_nil_iff, List.filter_eq_nil_iff]
 intro r hr
 have hall : (tabL.all fun r => decide (1 ≤ r.2.1 ∧ r.2.1 ≤ 25)) = true := by decide +kernel
 have := List.all_eq_true.1 hall r hr
 simp only [decide_eq_true_eq] at this
 simp only [Bool.and_eq_true, beq_iff_eq, not_and]
 intro h1
 omega
theorem Qei : Zj Tryz.prog G1 139 [.nilSlice, .func (.func 140) [] []] (.tuple []) := Qk Xo (N := 1000) (d := 40) (by kernel_rfl)
def coT (kind : Int) (i : Nat) : List AV := .p (.int .i64 kind) :: .any :: .any :: .p .nilSlice :: .any :: .any :: .any :: .any :: .any :: .p Qhs :: .p (.int .i64 40) :: .p (.int .i64 i) :: List.replicate 27 .any
def coU (_ : Unit) : List AV := .any :: .any :: .any :: .any :: .any :: .any :: .p .nilSlice :: .any :: .any :: .any :: .any :: .any :: .any :: .any :: .any :: .any :: .any :: .any :: .any :: .any :: .any :: .any :: .any :: .any :: .any :: .any :: .any :: .p (.int .i64 0) :: .p (.int .i64 0) :: List.replicate 10 .any
theorem Qj2 (kind : Int) (h : kind < 1 ∨ 25 < kind) : Zj Tryz.prog G1 117 [.int .i64 kind] .nilSlice := by
 refine Q4 Qu2 ?_
 refine V6 Q6t .nil ?_
 refine Q85 (coT kind) (fun _ => []) (fun i => i ≤ 40) (fun i => 40 - i) 0 (Nat.zero_le _) ⟨⟨rfl, rfl, rfl, rfl, rfl, trivial⟩, rfl, rfl, rfl⟩ (fun _ _ => Nat.le_refl _) (fun i hi => ?_)
 refine ifP (fun hc => ?_) (fun hc => ?_)
 ·have hlt : i < 40 := by unfold Q8 at hc; simp at hc; omega
  refine Qpy (x := Qct i) (Q6j _ hlt) ?_
  refine ifP (fun hk => ?_) (fun hk => ?_)
  ·exfalso
   unfold Q8 at hk
   have hk : Qft i = kind := by simpa [Qft] using hk
   have := Qgn i hlt
   omega
  ·refine ⟨i + 1, by show i + 1 ≤ 40; omega, by show 40 - (i + 1) < 40 - i; omega, ⟨rfl, rfl, rfl, rfl, ?_, trivial⟩, rfl, rfl, rfl⟩
   rw [IntWalk.i64_in ((i : Int) + 1) (by omega)]; rfl
 ·refine V6 Qei (.cons (.p _) (.cons (.p _) .nil)) ?_
  refine Q85 coU (fun _ => []) (fun _ => True) (fun _ => 0) () trivial ⟨⟨rfl, rfl, rfl, trivial⟩, rfl, rfl, rfl⟩ (fun _ _ => Nat.le_refl _) (fun i hi => ?_)
  refine ifF (by unfold Q8; decide) ?_
  exact Q67 rfl
end
end Go.Av
namespace Go.Av
noncomputable section
open Go.Proofs
set_option maxRecDepth 1000000
theorem Qp8 : Zj Tryz.prog G1 117 [.int .i64 1] (Xc 1) := Qk Xo (N := 1000) (d := 40) (by kernel_rfl)
theorem Qp5 : Zj Tryz.prog G1 117 [.int .i64 2] (Xc 2) := Qk Xo (N := 1000) (d := 40) (by kernel_rfl)
theorem Qpe : Zj Tryz.prog G1 117 [.int .i64 3] (Xc 3) := Qk Xo (N := 1000) (d := 40) (by kernel_rfl)
theorem Qps : Zj Tryz.prog G1 117 [.int .i64 4] (Xc 4) := Qk Xo (N := 1000) (d := 40) (by kernel_rfl)
theorem Qop : Zj Tryz.prog G1 117 [.int .i64 5] (Xc 5) := Qk Xo (N := 1000) (d := 40) (by kernel_rfl)
theorem Qpm : Zj Tryz.prog G1 117 [.int .i64 6] (Xc 6) := Qk Xo (N := 1000) (d := 40) (by kernel_rfl)
theorem Qpn : Zj Tryz.prog G1 117 [.int .i64 7] (Xc 7) := Qk Xo (N := 1000) (d := 40) (by kernel_rfl)
theorem Qp7 : Zj Tryz.prog G1 117 [.int .i64 8] (Xc 8) := Qk Xo (N := 1000) (d := 40) (by kernel_rfl)
theorem Qpf : Zj Tryz.prog G1 117 [.int .i64 9] (Xc 9) := Qk Xo (N := 1000) (d := 40) (by kernel_rfl)
theorem Qlm : Zj Tryz.prog G1 117 [.int .i64 10] (Xc 10) := Qk Xo (N := 1000) (d := 40) (by kernel_rfl)
theorem Qmg : Zj Tryz.prog G1 117 [.int .i64 11] (Xc 11) := Qk Xo (N := 1000) (d := 40) (by kernel_rfl)
theorem Qml : Zj Tryz.prog G1 117 [.int .i64 12] (Xc 12) := Qk Xo (N := 1000) (d := 40) (by kernel_rfl)
theorem Qmp : Zj Tryz.prog G1 117 [.int .i64 13] (Xc 13) := Qk Xo (N := 1000) (d := 40) (by kernel_rfl)
theorem Qlr : Zj Tryz.prog G1 117 [.int .i64 14] (Xc 14) := Qk Xo (N := 1000) (d := 40) (by kernel_rfl)
theorem Qlz : Zj Tryz.prog G1 117 [.int .i64 15] (Xc 15) := Qk Xo (N := 1000) (d := 40) (by kernel_rfl)
theorem Qmf : Zj Tryz.prog G1 117 [.int .i64 16] (Xc 16) := Qk Xo (N := 1000) (d := 40) (by kernel_rfl)
theorem Qll : Zj Tryz.prog G1 117 [.int .i64 17] (Xc 17) := Qk Xo (N := 1000) (d := 40) (by kernel_rfl)
theorem Qn5 : Zj Tryz.prog G1 117 [.int .i64 18] (Xc 18) := Qk Xo (N := 1000) (d := 40) (by kernel_rfl)
theorem Qn1 : Zj Tryz.prog G1 117 [.int .i64 19] (Xc 19) := Qk Xo (N := 1000) (d := 40) (by kernel_rfl)
theorem Qmh : Zj Tryz.prog G1 117 [.int .i64 20] (Xc 20) := Qk Xo (N := 1000) (d := 40) (by kernel_rfl)
theorem Qlo : Zj Tryz.prog G1 117 [.int .i64 21] (Xc 21) := Qk Xo (N := 1000) (d := 40) (by kernel_rfl)
theorem Qmn : Zj Tryz.prog G1 117 [.int .i64 22] (Xc 22) := Qk Xo (N := 1000) (d := 40) (by kernel_rfl)
theorem Qmu : Zj Tryz.prog G1 117 [.int .i64 23] (Xc 23) := Qk Xo (N := 1000) (d := 40) (by kernel_rfl)
theorem Qly : Zj Tryz.prog G1 117 [.int .i64 24] (Xc 24) := Qk Xo (N := 1000) (d := 40) (by kernel_rfl)
theorem Qmo : Zj Tryz.prog G1 117 [.int .i64 25] (Xc 25) := Qk Xo (N := 1000) (d := 40) (by kernel_rfl)
theorem Qj6 (kind : Int) : Zj Tryz.prog G1 117 [.int .i64 kind] (Xc kind) := by
 by_cases h : kind < 1 ∨ 25 < kind
 ·have := Qj2 kind h
  rw [Xc, Q4v kind h]; exact this
 ·have h1 : 1 ≤ kind := by omega
  have h2 : kind ≤ 25 := by omega
  have h3 : kind = 1 ∨ kind = 2 ∨ kind = 3 ∨ kind = 4 ∨ kind = 5 ∨ kind = 6 ∨ kind = 7 ∨ kind = 8 ∨ kind = 9 ∨ kind = 10 ∨ kind = 11 ∨ kind = 12 ∨ kind = 13 ∨ kind = 14 ∨ kind = 15 ∨ kind = 16 ∨ kind = 17 ∨ kind = 18 ∨ kind = 19 ∨ kind = 20 ∨ kind = 21 ∨ kind = 22 ∨ kind = 23 ∨ kind = 24 ∨ kind = 25 := by omega
  clear h h1 h2
  rcases h3 with rfl | rfl | rfl | rfl | rfl | rfl | rfl | rfl | rfl | rfl | rfl | rfl | rfl | rfl | rfl | rfl | rfl | rfl | rfl | rfl | rfl | rfl | rfl | rfl | rfl
  ·exact Qp8
  ·exact Qp5
  ·exact Qpe
  ·exact Qps
  ·exact Qop
  ·exact Qpm
  ·exact Qpn
  ·exact Qp7
  ·exact Qpf
  ·exact Qlm
  ·exact Qmg
  ·exact Qml
  ·exact Qmp
  ·exact Qlr
  ·exact Qlz
  ·exact Qmf
  ·exact Qll
  ·exact Qn5
  ·exact Qn1
  ·exact Qmh
  ·exact Qlo
  ·exact Qmn
  ·exact Qmu
  ·exact Qly
  ·exact Qmo
end
end Go.Av
