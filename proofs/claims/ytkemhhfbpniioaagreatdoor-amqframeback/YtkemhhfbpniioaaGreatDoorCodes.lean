/- The law. Part of a proof of a given statement: for every input the law returns true and the arguments read as before; no condition beyond the given row. -/
import Derived.Test.YtkemhhfbpniioaaGreatDoorTab16
namespace Go.Av
noncomputable section
open Go.Proofs
set_option maxRecDepth 100000
attribute [local irreducible] Ws Yj Q4y Q5p Q8
def ofB (n : Int) : Bool := decide (bsI n < 40) && decide (Uc (bsI n) = n)
def ofC (n : Int) : List PV := if ofB n = true then Qc7 (bsI n) else Qe3 0 0 0 false false
theorem Qqs (n : Int) : Zs Tryz.prog G1 107 [.int .i64 n] (.tuple [.agg (ofC n), .bool (ofB n)]) := by
 refine Q6 Qus ?_
 refine Wx Q7g .nil ?_
 refine Wx (Qrl n) (.cons (.p _) (.cons (.p _) (.cons (.p _) .nil))) ?_
 refine ifP (fun h => ?_) (fun h => ?_)
 ·have hb : ofB n = false := by unfold ofB; revert h; cases (decide (bsI n < 40) && decide (Uc (bsI n) = n)) <;> simp
  refine Frz.tuple' (.cons (.agg' ?_) (.cons (Q6f ?_) .nil))
  ·simp only [ofC, hb, Bool.false_eq_true, if_false, Qe3]
   exact .cons (.p _) (.cons (.p _) (.cons (.p _) (.cons (.p _) (.cons (.p _) .nil))))
  ·rw [hb]
 ·have hb : ofB n = true := by unfold ofB; revert h; cases (decide (bsI n < 40) && decide (Uc (bsI n) = n)) <;> simp
  have hlt : bsI n < 40 := by simp only [ofB, Bool.and_eq_true, decide_eq_true_eq] at hb; exact hb.1
  refine Qqi (x := Qc7 (bsI n)) (Q6s _ hlt) ?_
  refine Frz.tuple' (.cons (.agg' ?_) (.cons (Q6f ?_) .nil))
  ·simp only [ofC, hb, if_true, Qc7, Qe3]
   exact .cons (.p _) (.cons (.p _) (.cons (.p _) (.cons (.p _) (.cons (.p _) .nil))))
  ·rw [hb]
def ofT (n : Int) : Int × Int × Int × Bool × Bool := if ofB n = true then W5 (bsI n) else (0, 0, 0, false, false)
def ofR (n : Int) : List PV := Qe3 (ofT n).1 (ofT n).2.1 (ofT n).2.2.1 (ofT n).2.2.2.1 (ofT n).2.2.2.2
theorem Qqx (n : Int) : ofC n = ofR n := by
 unfold ofC ofR ofT
 split <;> rfl
theorem Qq0 (n : Int) : Zs Tryz.prog G1 107 [.int .i64 n] (.tuple [.agg (ofR n), .bool (ofB n)]) := by
 rw [← Qqx]; exact Qqs n
end
end Go.Av
namespace Go.Av
noncomputable section
open Go.Proofs
set_option maxRecDepth 100000
attribute [local irreducible] Ws Yj Q4y Q5p Q8
def Wu (k : Int) : List Int := (List.range 17).flatMap fun (w : Nat) => (tabL.filter fun r => r.2.1 == k && r.2.2.1 == (w : Int)).map (·.1)
def Yy (k : Int) : PV := match Wu k with
 | [] => .nilSlice
 | c :: l => .slice 1 ((c :: l).map fun c => [.int .i64 c])
def Qfm (k : Nat) : Int := (W5 k).2.1
theorem Qhw : ∀ k, k < 40 → 1 ≤ Qfm k ∧ Qfm k ≤ 25 := by decide +kernel
theorem Q5q (k : Int) (h : k < 1 ∨ 25 < k) : Wu k = [] := by
 unfold Wu
 rw [List.flatMap_eq_nil_iff]
 intro w _
 rw [List.map_eq_nil_iff, List.filter_eq_nil_iff]
 intro r hr
 have hall : (tabL.all fun r => decide (1 ≤ r.2.1 ∧ r.2.1 ≤ 25)) = true := by decide +kernel
 have := List.all_eq_true.1 hall r hr
 simp only [decide_eq_true_eq] at this
 simp only [Bool.and_eq_true, beq_iff_eq, not_and]
 intro h1
 omega
theorem Qeo : Zs Tryz.prog G1 139 [.nilSlice, .func (.func 140) [] []] (.tuple []) := Ql Xf (N := 1000) (d := 40) (by kernel_rfl)
def coT (kind : Int) (i : Nat) : List AV := .p (.int .i64 kind) :: .any :: .any :: .p .nilSlice :: .any :: .any :: .any :: .any :: .any :: .p Qk7 :: .p (.int .i64 40) :: .p (.int .i64 i) :: List.replicate 27 .any
def coU (_ : Unit) : List AV := .any :: .any :: .any :: .any :: .any :: .any :: .p .nilSlice :: .any :: .any :: .any :: .any :: .any :: .any :: .any :: .any :: .any :: .any :: .any :: .any :: .any :: .any :: .any :: .any :: .any :: .any :: .any :: .any :: .p (.int .i64 0) :: .p (.int .i64 0) :: List.replicate 10 .any
theorem Qiw (kind : Int) (h : kind < 1 ∨ 25 < kind) : Zs Tryz.prog G1 117 [.int .i64 kind] .nilSlice := by
 refine Q6 Qwa ?_
 refine Wx Q7g .nil ?_
 refine Q7i (coT kind) (fun _ => []) (fun i => i ≤ 40) (fun i => 40 - i) 0 (Nat.zero_le _) ⟨⟨rfl, rfl, rfl, rfl, rfl, trivial⟩, rfl, rfl, rfl⟩ (fun _ _ => Nat.le_refl _) (fun i hi => ?_)
 refine ifP (fun hc => ?_) (fun hc => ?_)
 ·have hlt : i < 40 := by unfold Q8 at hc; simp at hc; omega
  refine Qqi (x := Qc7 i) (Q6s _ hlt) ?_
  refine ifP (fun hk => ?_) (fun hk => ?_)
  ·exfalso
   unfold Q8 at hk
   have hk : Qfm i = kind := by simpa [Qfm] using hk
   have := Qhw i hlt
   omega
  ·refine ⟨i + 1, by show i + 1 ≤ 40; omega, by show 40 - (i + 1) < 40 - i; omega, ⟨rfl, rfl, rfl, rfl, ?_, trivial⟩, rfl, rfl, rfl⟩
   rw [IntWalk.i64_in ((i : Int) + 1) (by omega)]; rfl
 ·refine Wx Qeo (.cons (.p _) (.cons (.p _) .nil)) ?_
  refine Q7i coU (fun _ => []) (fun _ => True) (fun _ => 0) () trivial ⟨⟨rfl, rfl, rfl, trivial⟩, rfl, rfl, rfl⟩ (fun _ _ => Nat.le_refl _) (fun i hi => ?_)
  refine ifF (by unfold Q8; decide) ?_
  exact Q6f rfl
end
end Go.Av
namespace Go.Av
noncomputable section
open Go.Proofs
set_option maxRecDepth 1000000
theorem Qov : Zs Tryz.prog G1 117 [.int .i64 1] (Yy 1) := Ql Xf (N := 1000) (d := 40) (by kernel_rfl)
theorem Qop : Zs Tryz.prog G1 117 [.int .i64 2] (Yy 2) := Ql Xf (N := 1000) (d := 40) (by kernel_rfl)
theorem Qp3 : Zs Tryz.prog G1 117 [.int .i64 3] (Yy 3) := Ql Xf (N := 1000) (d := 40) (by kernel_rfl)
theorem Qpz : Zs Tryz.prog G1 117 [.int .i64 4] (Yy 4) := Ql Xf (N := 1000) (d := 40) (by kernel_rfl)
theorem Qot : Zs Tryz.prog G1 117 [.int .i64 5] (Yy 5) := Ql Xf (N := 1000) (d := 40) (by kernel_rfl)
theorem Qok : Zs Tryz.prog G1 117 [.int .i64 6] (Yy 6) := Ql Xf (N := 1000) (d := 40) (by kernel_rfl)
theorem Qp7 : Zs Tryz.prog G1 117 [.int .i64 7] (Yy 7) := Ql Xf (N := 1000) (d := 40) (by kernel_rfl)
theorem Qoz : Zs Tryz.prog G1 117 [.int .i64 8] (Yy 8) := Ql Xf (N := 1000) (d := 40) (by kernel_rfl)
theorem Qpf : Zs Tryz.prog G1 117 [.int .i64 9] (Yy 9) := Ql Xf (N := 1000) (d := 40) (by kernel_rfl)
theorem Qly : Zs Tryz.prog G1 117 [.int .i64 10] (Yy 10) := Ql Xf (N := 1000) (d := 40) (by kernel_rfl)
theorem Qm9 : Zs Tryz.prog G1 117 [.int .i64 11] (Yy 11) := Ql Xf (N := 1000) (d := 40) (by kernel_rfl)
theorem Qms : Zs Tryz.prog G1 117 [.int .i64 12] (Yy 12) := Ql Xf (N := 1000) (d := 40) (by kernel_rfl)
theorem Qls : Zs Tryz.prog G1 117 [.int .i64 13] (Yy 13) := Ql Xf (N := 1000) (d := 40) (by kernel_rfl)
theorem Qm2 : Zs Tryz.prog G1 117 [.int .i64 14] (Yy 14) := Ql Xf (N := 1000) (d := 40) (by kernel_rfl)
theorem Qnm : Zs Tryz.prog G1 117 [.int .i64 15] (Yy 15) := Ql Xf (N := 1000) (d := 40) (by kernel_rfl)
theorem Qma : Zs Tryz.prog G1 117 [.int .i64 16] (Yy 16) := Ql Xf (N := 1000) (d := 40) (by kernel_rfl)
theorem Qlx : Zs Tryz.prog G1 117 [.int .i64 17] (Yy 17) := Ql Xf (N := 1000) (d := 40) (by kernel_rfl)
theorem Qnf : Zs Tryz.prog G1 117 [.int .i64 18] (Yy 18) := Ql Xf (N := 1000) (d := 40) (by kernel_rfl)
theorem Qn7 : Zs Tryz.prog G1 117 [.int .i64 19] (Yy 19) := Ql Xf (N := 1000) (d := 40) (by kernel_rfl)
theorem Qml : Zs Tryz.prog G1 117 [.int .i64 20] (Yy 20) := Ql Xf (N := 1000) (d := 40) (by kernel_rfl)
theorem Qn6 : Zs Tryz.prog G1 117 [.int .i64 21] (Yy 21) := Ql Xf (N := 1000) (d := 40) (by kernel_rfl)
theorem Qmn : Zs Tryz.prog G1 117 [.int .i64 22] (Yy 22) := Ql Xf (N := 1000) (d := 40) (by kernel_rfl)
theorem Qmf : Zs Tryz.prog G1 117 [.int .i64 23] (Yy 23) := Ql Xf (N := 1000) (d := 40) (by kernel_rfl)
theorem Qm5 : Zs Tryz.prog G1 117 [.int .i64 24] (Yy 24) := Ql Xf (N := 1000) (d := 40) (by kernel_rfl)
theorem Qn0 : Zs Tryz.prog G1 117 [.int .i64 25] (Yy 25) := Ql Xf (N := 1000) (d := 40) (by kernel_rfl)
theorem Qko (kind : Int) : Zs Tryz.prog G1 117 [.int .i64 kind] (Yy kind) := by
 by_cases h : kind < 1 ∨ 25 < kind
 ·have := Qiw kind h
  rw [Yy, Q5q kind h]; exact this
 ·have h1 : 1 ≤ kind := by omega
  have h2 : kind ≤ 25 := by omega
  have h3 : kind = 1 ∨ kind = 2 ∨ kind = 3 ∨ kind = 4 ∨ kind = 5 ∨ kind = 6 ∨ kind = 7 ∨ kind = 8 ∨ kind = 9 ∨ kind = 10 ∨ kind = 11 ∨ kind = 12 ∨ kind = 13 ∨ kind = 14 ∨ kind = 15 ∨ kind = 16 ∨ kind = 17 ∨ kind = 18 ∨ kind = 19 ∨ kind = 20 ∨ kind = 21 ∨ kind = 22 ∨ kind = 23 ∨ kind = 24 ∨ kind = 25 := by omega
  clear h h1 h2
  rcases h3 with rfl | rfl | rfl | rfl | rfl | rfl | rfl | rfl | rfl | rfl | rfl | rfl | rfl | rfl | rfl | rfl | rfl | rfl | rfl | rfl | rfl | rfl | rfl | rfl | rfl
  ·exact Qov
  ·exact Qop
  ·exact Qp3
  ·exact Qpz
  ·exact Qot
  ·exact Qok
  ·exact Qp7
  ·exact Qoz
  ·exact Qpf
  ·exact Qly
  ·exact Qm9
  ·exact Qms
  ·exact Qls
  ·exact Qm2
  ·exact Qnm
  ·exact Qma
  ·exact Qlx
  ·exact Qnf
  ·exact Qn7
  ·exact Qml
  ·exact Qn6
  ·exact Qmn
  ·exact Qmf
  ·exact Qm5
  ·exact Qn0
end
end Go.Av
