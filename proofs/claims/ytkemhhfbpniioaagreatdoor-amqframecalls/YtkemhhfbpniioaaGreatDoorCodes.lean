/- The law. Part of a proof of a given statement: for every input the law returns true and the arguments read as before; no condition beyond the given row. -/
import Derived.Test.YtkemhhfbpniioaaGreatDoorTab16
namespace Go.Av
noncomputable section
open Go.Proofs
set_option maxRecDepth 100000
attribute [local irreducible] Gc V2 Q9e Qau Q5
def ofB (n : Int) : Bool := decide (bsI n < 40) && decide (Q16 (bsI n) = n)
def ofC (n : Int) : List PV := if ofB n = true then Qk1 (bsI n) else Qlt 0 0 0 false false
theorem Qyf (n : Int) : Z0 Tryz.prog G1 107 [.int .i64 n] (.tuple [.agg (ofC n), .bool (ofB n)]) := by
 refine Q3 Z3i ?_
 refine Gg Qen .nil ?_
 refine Gg (Qyn n) (.cons (.p _) (.cons (.p _) (.cons (.p _) .nil))) ?_
 refine ifP (fun h => ?_) (fun h => ?_)
 ·have hb : ofB n = false := by unfold ofB; revert h; cases (decide (bsI n < 40) && decide (Q16 (bsI n) = n)) <;> simp
  refine Frz.tuple' (.cons (.agg' ?_) (.cons (Qc6 ?_) .nil))
  ·simp only [ofC, hb, Bool.false_eq_true, if_false, Qlt]
   exact .cons (.p _) (.cons (.p _) (.cons (.p _) (.cons (.p _) (.cons (.p _) .nil))))
  ·rw [hb]
 ·have hb : ofB n = true := by unfold ofB; revert h; cases (decide (bsI n < 40) && decide (Q16 (bsI n) = n)) <;> simp
  have hlt : bsI n < 40 := by simp only [ofB, Bool.and_eq_true, decide_eq_true_eq] at hb; exact hb.1
  refine Qy8 (x := Qk1 (bsI n)) (Qcr _ hlt) ?_
  refine Frz.tuple' (.cons (.agg' ?_) (.cons (Qc6 ?_) .nil))
  ·simp only [ofC, hb, if_true, Qk1, Qlt]
   exact .cons (.p _) (.cons (.p _) (.cons (.p _) (.cons (.p _) (.cons (.p _) .nil))))
  ·rw [hb]
def ofT (n : Int) : Int × Int × Int × Bool × Bool := if ofB n = true then Uk (bsI n) else (0, 0, 0, false, false)
def ofR (n : Int) : List PV := Qlt (ofT n).1 (ofT n).2.1 (ofT n).2.2.1 (ofT n).2.2.2.1 (ofT n).2.2.2.2
theorem Qyp (n : Int) : ofC n = ofR n := by
 unfold ofC ofR ofT
 split <;> rfl
theorem Qx8 (n : Int) : Z0 Tryz.prog G1 107 [.int .i64 n] (.tuple [.agg (ofR n), .bool (ofB n)]) := by
 rw [← Qyp]; exact Qyf n
end
end Go.Av
namespace Go.Av
noncomputable section
open Go.Proofs
set_option maxRecDepth 100000
attribute [local irreducible] Gc V2 Q9e Qau Q5
def Ju (k : Int) : List Int := (List.range 17).flatMap fun (w : Nat) => (tabL.filter fun r => r.2.1 == k && r.2.2.1 == (w : Int)).map (·.1)
def Vp (k : Int) : PV := match Ju k with
 | [] => .nilSlice
 | c :: l => .slice 1 ((c :: l).map fun c => [.int .i64 c])
def Qno (k : Nat) : Int := (Uk k).2.1
theorem Qo0 : ∀ k, k < 40 → 1 ≤ Qno k ∧ Qno k ≤ 25 := by decide +kernel
theorem Q8b (k : Int) (h : k < 1 ∨ 25 < k) : Ju k = [] := by
 unfold Ju
 rw [List.flatMap_eq_nil_iff]
 intro w _
 rw [List.map_eq_nil_iff, List.filter_eq_nil_iff]
 intro r hr
 have hall : (tabL.all fun r => decide (1 ≤ r.2.1 ∧ r.2.1 ≤ 25)) = true := by decide +kernel
 have := List.all_eq_true.1 hall r hr
 simp only [decide_eq_true_eq] at this
 simp only [Bool.and_eq_true, beq_iff_eq, not_and]
 intro h1
 omega
theorem Qlb : Z0 Tryz.prog G1 139 [.nilSlice, .func (.func 140) [] []] (.tuple []) := Qx U8 (N := 1000) (d := 40) (by kernel_rfl)
def coT (kind : Int) (i : Nat) : List AV := .p (.int .i64 kind) :: .any :: .any :: .p .nilSlice :: .any :: .any :: .any :: .any :: .any :: .p Qpk :: .p (.int .i64 40) :: .p (.int .i64 i) :: List.replicate 27 .any
def coU (_ : Unit) : List AV := .any :: .any :: .any :: .any :: .any :: .any :: .p .nilSlice :: .any :: .any :: .any :: .any :: .any :: .any :: .any :: .any :: .any :: .any :: .any :: .any :: .any :: .any :: .any :: .any :: .any :: .any :: .any :: .any :: .p (.int .i64 0) :: .p (.int .i64 0) :: List.replicate 10 .any
theorem Qq1 (kind : Int) (h : kind < 1 ∨ 25 < kind) : Z0 Tryz.prog G1 117 [.int .i64 kind] .nilSlice := by
 refine Q3 Z33 ?_
 refine Gg Qen .nil ?_
 refine Qdh (coT kind) (fun _ => []) (fun i => i ≤ 40) (fun i => 40 - i) 0 (Nat.zero_le _) ⟨⟨rfl, rfl, rfl, rfl, rfl, trivial⟩, rfl, rfl, rfl⟩ (fun _ _ => Nat.le_refl _) (fun i hi => ?_)
 refine ifP (fun hc => ?_) (fun hc => ?_)
 ·have hlt : i < 40 := by unfold Q5 at hc; simp at hc; omega
  refine Qy8 (x := Qk1 i) (Qcr _ hlt) ?_
  refine ifP (fun hk => ?_) (fun hk => ?_)
  ·exfalso
   unfold Q5 at hk
   have hk : Qno i = kind := by simpa [Qno] using hk
   have := Qo0 i hlt
   omega
  ·refine ⟨i + 1, by show i + 1 ≤ 40; omega, by show 40 - (i + 1) < 40 - i; omega, ⟨rfl, rfl, rfl, rfl, ?_, trivial⟩, rfl, rfl, rfl⟩
   rw [IntWalk.i64_in ((i : Int) + 1) (by omega)]; rfl
 ·refine Gg Qlb (.cons (.p _) (.cons (.p _) .nil)) ?_
  refine Qdh coU (fun _ => []) (fun _ => True) (fun _ => 0) () trivial ⟨⟨rfl, rfl, rfl, trivial⟩, rfl, rfl, rfl⟩ (fun _ _ => Nat.le_refl _) (fun i hi => ?_)
  refine ifF (by unfold Q5; decide) ?_
  exact Qc6 rfl
end
end Go.Av
namespace Go.Av
noncomputable section
open Go.Proofs
set_option maxRecDepth 1000000
theorem Qx1 : Z0 Tryz.prog G1 117 [.int .i64 1] (Vp 1) := Qx U8 (N := 1000) (d := 40) (by kernel_rfl)
theorem Qy2 : Z0 Tryz.prog G1 117 [.int .i64 2] (Vp 2) := Qx U8 (N := 1000) (d := 40) (by kernel_rfl)
theorem Qxb : Z0 Tryz.prog G1 117 [.int .i64 3] (Vp 3) := Qx U8 (N := 1000) (d := 40) (by kernel_rfl)
theorem Qxp : Z0 Tryz.prog G1 117 [.int .i64 4] (Vp 4) := Qx U8 (N := 1000) (d := 40) (by kernel_rfl)
theorem Qwa : Z0 Tryz.prog G1 117 [.int .i64 5] (Vp 5) := Qx U8 (N := 1000) (d := 40) (by kernel_rfl)
theorem Qwm : Z0 Tryz.prog G1 117 [.int .i64 6] (Vp 6) := Qx U8 (N := 1000) (d := 40) (by kernel_rfl)
theorem Qwv : Z0 Tryz.prog G1 117 [.int .i64 7] (Vp 7) := Qx U8 (N := 1000) (d := 40) (by kernel_rfl)
theorem Qwe : Z0 Tryz.prog G1 117 [.int .i64 8] (Vp 8) := Qx U8 (N := 1000) (d := 40) (by kernel_rfl)
theorem Qxy : Z0 Tryz.prog G1 117 [.int .i64 9] (Vp 9) := Qx U8 (N := 1000) (d := 40) (by kernel_rfl)
theorem Qti : Z0 Tryz.prog G1 117 [.int .i64 10] (Vp 10) := Qx U8 (N := 1000) (d := 40) (by kernel_rfl)
theorem Quy : Z0 Tryz.prog G1 117 [.int .i64 11] (Vp 11) := Qx U8 (N := 1000) (d := 40) (by kernel_rfl)
theorem Quu : Z0 Tryz.prog G1 117 [.int .i64 12] (Vp 12) := Qx U8 (N := 1000) (d := 40) (by kernel_rfl)
theorem Qt6 : Z0 Tryz.prog G1 117 [.int .i64 13] (Vp 13) := Qx U8 (N := 1000) (d := 40) (by kernel_rfl)
theorem Qur : Z0 Tryz.prog G1 117 [.int .i64 14] (Vp 14) := Qx U8 (N := 1000) (d := 40) (by kernel_rfl)
theorem Qu6 : Z0 Tryz.prog G1 117 [.int .i64 15] (Vp 15) := Qx U8 (N := 1000) (d := 40) (by kernel_rfl)
theorem Qth : Z0 Tryz.prog G1 117 [.int .i64 16] (Vp 16) := Qx U8 (N := 1000) (d := 40) (by kernel_rfl)
theorem Qun : Z0 Tryz.prog G1 117 [.int .i64 17] (Vp 17) := Qx U8 (N := 1000) (d := 40) (by kernel_rfl)
theorem Qtv : Z0 Tryz.prog G1 117 [.int .i64 18] (Vp 18) := Qx U8 (N := 1000) (d := 40) (by kernel_rfl)
theorem Quz : Z0 Tryz.prog G1 117 [.int .i64 19] (Vp 19) := Qx U8 (N := 1000) (d := 40) (by kernel_rfl)
theorem Qu8 : Z0 Tryz.prog G1 117 [.int .i64 20] (Vp 20) := Qx U8 (N := 1000) (d := 40) (by kernel_rfl)
theorem Qux : Z0 Tryz.prog G1 117 [.int .i64 21] (Vp 21) := Qx U8 (N := 1000) (d := 40) (by kernel_rfl)
theorem Qup : Z0 Tryz.prog G1 117 [.int .i64 22] (Vp 22) := Qx U8 (N := 1000) (d := 40) (by kernel_rfl)
theorem Qtt : Z0 Tryz.prog G1 117 [.int .i64 23] (Vp 23) := Qx U8 (N := 1000) (d := 40) (by kernel_rfl)
theorem Quc : Z0 Tryz.prog G1 117 [.int .i64 24] (Vp 24) := Qx U8 (N := 1000) (d := 40) (by kernel_rfl)
theorem Qv0 : Z0 Tryz.prog G1 117 [.int .i64 25] (Vp 25) := Qx U8 (N := 1000) (d := 40) (by kernel_rfl)
theorem Qrg (kind : Int) : Z0 Tryz.prog G1 117 [.int .i64 kind] (Vp kind) := by
 by_cases h : kind < 1 ∨ 25 < kind
 ·have := Qq1 kind h
  rw [Vp, Q8b kind h]; exact this
 ·have h1 : 1 ≤ kind := by omega
  have h2 : kind ≤ 25 := by omega
  have h3 : kind = 1 ∨ kind = 2 ∨ kind = 3 ∨ kind = 4 ∨ kind = 5 ∨ kind = 6 ∨ kind = 7 ∨ kind = 8 ∨ kind = 9 ∨ kind = 10 ∨ kind = 11 ∨ kind = 12 ∨ kind = 13 ∨ kind = 14 ∨ kind = 15 ∨ kind = 16 ∨ kind = 17 ∨ kind = 18 ∨ kind = 19 ∨ kind = 20 ∨ kind = 21 ∨ kind = 22 ∨ kind = 23 ∨ kind = 24 ∨ kind = 25 := by omega
  clear h h1 h2
  rcases h3 with rfl | rfl | rfl | rfl | rfl | rfl | rfl | rfl | rfl | rfl | rfl | rfl | rfl | rfl | rfl | rfl | rfl | rfl | rfl | rfl | rfl | rfl | rfl | rfl | rfl
  ·exact Qx1
  ·exact Qy2
  ·exact Qxb
  ·exact Qxp
  ·exact Qwa
  ·exact Qwm
  ·exact Qwv
  ·exact Qwe
  ·exact Qxy
  ·exact Qti
  ·exact Quy
  ·exact Quu
  ·exact Qt6
  ·exact Qur
  ·exact Qu6
  ·exact Qth
  ·exact Qun
  ·exact Qtv
  ·exact Quz
  ·exact Qu8
  ·exact Qux
  ·exact Qup
  ·exact Qtt
  ·exact Quc
  ·exact Qv0
end
end Go.Av
