/- The law. Part of a proof of a given statement: for every input the law returns true and the arguments read as before; no condition beyond the given row. -/
import Derived.Test.YtkemhhfbpniioaaGreatDoorTab16
namespace Go.Av
noncomputable section
open Go.Proofs
set_option maxRecDepth 100000
attribute [local irreducible] V9 X0 Q56 Q6j Q9
def ofB (n : Int) : Bool := decide (bsI n < 40) && decide (U6 (bsI n) = n)
def ofC (n : Int) : List PV := if ofB n = true then Qdh (bsI n) else Qgk 0 0 0 false false
theorem Qsy (n : Int) : Zx Tryz.prog G1 107 [.int .i64 n] (.tuple [.agg (ofC n), .bool (ofB n)]) := by
 refine Q6 Qxy ?_
 refine Ve Q8p .nil ?_
 refine Ve (Qsw n) (.cons (.p _) (.cons (.p _) (.cons (.p _) .nil))) ?_
 refine ifP (fun h => ?_) (fun h => ?_)
 ·have hb : ofB n = false := by unfold ofB; revert h; cases (decide (bsI n < 40) && decide (U6 (bsI n) = n)) <;> simp
  refine Frz.tuple' (.cons (.agg' ?_) (.cons (Q7m ?_) .nil))
  ·simp only [ofC, hb, Bool.false_eq_true, if_false, Qgk]
   exact .cons (.p _) (.cons (.p _) (.cons (.p _) (.cons (.p _) (.cons (.p _) .nil))))
  ·rw [hb]
 ·have hb : ofB n = true := by unfold ofB; revert h; cases (decide (bsI n < 40) && decide (U6 (bsI n) = n)) <;> simp
  have hlt : bsI n < 40 := by simp only [ofB, Bool.and_eq_true, decide_eq_true_eq] at hb; exact hb.1
  refine Qs4 (x := Qdh (bsI n)) (Q83 _ hlt) ?_
  refine Frz.tuple' (.cons (.agg' ?_) (.cons (Q7m ?_) .nil))
  ·simp only [ofC, hb, if_true, Qdh, Qgk]
   exact .cons (.p _) (.cons (.p _) (.cons (.p _) (.cons (.p _) (.cons (.p _) .nil))))
  ·rw [hb]
def ofT (n : Int) : Int × Int × Int × Bool × Bool := if ofB n = true then Xd (bsI n) else (0, 0, 0, false, false)
def ofR (n : Int) : List PV := Qgk (ofT n).1 (ofT n).2.1 (ofT n).2.2.1 (ofT n).2.2.2.1 (ofT n).2.2.2.2
theorem Qs9 (n : Int) : ofC n = ofR n := by
 unfold ofC ofR ofT
 split <;> rfl
theorem Qrq (n : Int) : Zx Tryz.prog G1 107 [.int .i64 n] (.tuple [.agg (ofR n), .bool (ofB n)]) := by
 rw [← Qs9]; exact Qsy n
end
end Go.Av
namespace Go.Av
noncomputable section
open Go.Proofs
set_option maxRecDepth 100000
attribute [local irreducible] V9 X0 Q56 Q6j Q9
def Xp (k : Int) : List Int := (List.range 17).flatMap fun (w : Nat) => (tabL.filter fun r => r.2.1 == k && r.2.2.1 == (w : Int)).map (·.1)
def Xe (k : Int) : PV := match Xp k with
 | [] => .nilSlice
 | c :: l => .slice 1 ((c :: l).map fun c => [.int .i64 c])
def Qhq (k : Nat) : Int := (Xd k).2.1
theorem Qjd : ∀ k, k < 40 → 1 ≤ Qhq k ∧ Qhq k ≤ 25 := by decide +kernel
theorem Q3a (k : Int) (h : k < 1 ∨ 25 < k) : Xp k = [] := by
 unfold Xp
 rw [List.flatMap_eq_nil_iff]
 intro w _
 rw [List.map_eq_nil_iff, List.filter_eq_nil_iff]
 intro r hr
 have hall : (tabL.all fun r => decide (1 ≤ r.2.1 ∧ r.2.1 ≤ 25)) = true := by decide +kernel
 have := List.all_eq_true.1 hall r hr
 simp only [decide_eq_true_eq] at this
 simp only [Bool.and_eq_true, beq_iff_eq, not_and]
 intro h1
 omega
theorem Qgp : Zx Tryz.prog G1 139 [.nilSlice, .func (.func 140) [] []] (.tuple []) := Qn Xt (N := 1000) (d := 40) (by kernel_rfl)
def coT (kind : Int) (i : Nat) : List AV := .p (.int .i64 kind) :: .any :: .any :: .p .nilSlice :: .any :: .any :: .any :: .any :: .any :: .p Qmq :: .p (.int .i64 40) :: .p (.int .i64 i) :: List.replicate 27 .any
def coU (_ : Unit) : List AV := .any :: .any :: .any :: .any :: .any :: .any :: .p .nilSlice :: .any :: .any :: .any :: .any :: .any :: .any :: .any :: .any :: .any :: .any :: .any :: .any :: .any :: .any :: .any :: .any :: .any :: .any :: .any :: .any :: .p (.int .i64 0) :: .p (.int .i64 0) :: List.replicate 10 .any
theorem Qlh (kind : Int) (h : kind < 1 ∨ 25 < kind) : Zx Tryz.prog G1 117 [.int .i64 kind] .nilSlice := by
 refine Q6 Qxe ?_
 refine Ve Q8p .nil ?_
 refine Q8o (coT kind) (fun _ => []) (fun i => i ≤ 40) (fun i => 40 - i) 0 (Nat.zero_le _) ⟨⟨rfl, rfl, rfl, rfl, rfl, trivial⟩, rfl, rfl, rfl⟩ (fun _ _ => Nat.le_refl _) (fun i hi => ?_)
 refine ifP (fun hc => ?_) (fun hc => ?_)
 ·have hlt : i < 40 := by unfold Q9 at hc; simp at hc; omega
  refine Qs4 (x := Qdh i) (Q83 _ hlt) ?_
  refine ifP (fun hk => ?_) (fun hk => ?_)
  ·exfalso
   unfold Q9 at hk
   have hk : Qhq i = kind := by simpa [Qhq] using hk
   have := Qjd i hlt
   omega
  ·refine ⟨i + 1, by show i + 1 ≤ 40; omega, by show 40 - (i + 1) < 40 - i; omega, ⟨rfl, rfl, rfl, rfl, ?_, trivial⟩, rfl, rfl, rfl⟩
   rw [IntWalk.i64_in ((i : Int) + 1) (by omega)]; rfl
 ·refine Ve Qgp (.cons (.p _) (.cons (.p _) .nil)) ?_
  refine Q8o coU (fun _ => []) (fun _ => True) (fun _ => 0) () trivial ⟨⟨rfl, rfl, rfl, trivial⟩, rfl, rfl, rfl⟩ (fun _ _ => Nat.le_refl _) (fun i hi => ?_)
  refine ifF (by unfold Q9; decide) ?_
  exact Q7m rfl
end
end Go.Av
namespace Go.Av
noncomputable section
open Go.Proofs
set_option maxRecDepth 1000000
theorem Qqn : Zx Tryz.prog G1 117 [.int .i64 1] (Xe 1) := Qn Xt (N := 1000) (d := 40) (by kernel_rfl)
theorem Qq6 : Zx Tryz.prog G1 117 [.int .i64 2] (Xe 2) := Qn Xt (N := 1000) (d := 40) (by kernel_rfl)
theorem Qqo : Zx Tryz.prog G1 117 [.int .i64 3] (Xe 3) := Qn Xt (N := 1000) (d := 40) (by kernel_rfl)
theorem Qqs : Zx Tryz.prog G1 117 [.int .i64 4] (Xe 4) := Qn Xt (N := 1000) (d := 40) (by kernel_rfl)
theorem Qqm : Zx Tryz.prog G1 117 [.int .i64 5] (Xe 5) := Qn Xt (N := 1000) (d := 40) (by kernel_rfl)
theorem Qqb : Zx Tryz.prog G1 117 [.int .i64 6] (Xe 6) := Qn Xt (N := 1000) (d := 40) (by kernel_rfl)
theorem Qrf : Zx Tryz.prog G1 117 [.int .i64 7] (Xe 7) := Qn Xt (N := 1000) (d := 40) (by kernel_rfl)
theorem Qrj : Zx Tryz.prog G1 117 [.int .i64 8] (Xe 8) := Qn Xt (N := 1000) (d := 40) (by kernel_rfl)
theorem Qrs : Zx Tryz.prog G1 117 [.int .i64 9] (Xe 9) := Qn Xt (N := 1000) (d := 40) (by kernel_rfl)
theorem Qnw : Zx Tryz.prog G1 117 [.int .i64 10] (Xe 10) := Qn Xt (N := 1000) (d := 40) (by kernel_rfl)
theorem Qp0 : Zx Tryz.prog G1 117 [.int .i64 11] (Xe 11) := Qn Xt (N := 1000) (d := 40) (by kernel_rfl)
theorem Qoa : Zx Tryz.prog G1 117 [.int .i64 12] (Xe 12) := Qn Xt (N := 1000) (d := 40) (by kernel_rfl)
theorem Qp2 : Zx Tryz.prog G1 117 [.int .i64 13] (Xe 13) := Qn Xt (N := 1000) (d := 40) (by kernel_rfl)
theorem Qod : Zx Tryz.prog G1 117 [.int .i64 14] (Xe 14) := Qn Xt (N := 1000) (d := 40) (by kernel_rfl)
theorem Qnt : Zx Tryz.prog G1 117 [.int .i64 15] (Xe 15) := Qn Xt (N := 1000) (d := 40) (by kernel_rfl)
theorem Qne : Zx Tryz.prog G1 117 [.int .i64 16] (Xe 16) := Qn Xt (N := 1000) (d := 40) (by kernel_rfl)
theorem Qp3 : Zx Tryz.prog G1 117 [.int .i64 17] (Xe 17) := Qn Xt (N := 1000) (d := 40) (by kernel_rfl)
theorem Qnb : Zx Tryz.prog G1 117 [.int .i64 18] (Xe 18) := Qn Xt (N := 1000) (d := 40) (by kernel_rfl)
theorem Qnk : Zx Tryz.prog G1 117 [.int .i64 19] (Xe 19) := Qn Xt (N := 1000) (d := 40) (by kernel_rfl)
theorem Qof : Zx Tryz.prog G1 117 [.int .i64 20] (Xe 20) := Qn Xt (N := 1000) (d := 40) (by kernel_rfl)
theorem Qo4 : Zx Tryz.prog G1 117 [.int .i64 21] (Xe 21) := Qn Xt (N := 1000) (d := 40) (by kernel_rfl)
theorem Qnu : Zx Tryz.prog G1 117 [.int .i64 22] (Xe 22) := Qn Xt (N := 1000) (d := 40) (by kernel_rfl)
theorem Qng : Zx Tryz.prog G1 117 [.int .i64 23] (Xe 23) := Qn Xt (N := 1000) (d := 40) (by kernel_rfl)
theorem Qot : Zx Tryz.prog G1 117 [.int .i64 24] (Xe 24) := Qn Xt (N := 1000) (d := 40) (by kernel_rfl)
theorem Qob : Zx Tryz.prog G1 117 [.int .i64 25] (Xe 25) := Qn Xt (N := 1000) (d := 40) (by kernel_rfl)
theorem Qlb (kind : Int) : Zx Tryz.prog G1 117 [.int .i64 kind] (Xe kind) := by
 by_cases h : kind < 1 ∨ 25 < kind
 ·have := Qlh kind h
  rw [Xe, Q3a kind h]; exact this
 ·have h1 : 1 ≤ kind := by omega
  have h2 : kind ≤ 25 := by omega
  have h3 : kind = 1 ∨ kind = 2 ∨ kind = 3 ∨ kind = 4 ∨ kind = 5 ∨ kind = 6 ∨ kind = 7 ∨ kind = 8 ∨ kind = 9 ∨ kind = 10 ∨ kind = 11 ∨ kind = 12 ∨ kind = 13 ∨ kind = 14 ∨ kind = 15 ∨ kind = 16 ∨ kind = 17 ∨ kind = 18 ∨ kind = 19 ∨ kind = 20 ∨ kind = 21 ∨ kind = 22 ∨ kind = 23 ∨ kind = 24 ∨ kind = 25 := by omega
  clear h h1 h2
  rcases h3 with rfl | rfl | rfl | rfl | rfl | rfl | rfl | rfl | rfl | rfl | rfl | rfl | rfl | rfl | rfl | rfl | rfl | rfl | rfl | rfl | rfl | rfl | rfl | rfl | rfl
  ·exact Qqn
  ·exact Qq6
  ·exact Qqo
  ·exact Qqs
  ·exact Qqm
  ·exact Qqb
  ·exact Qrf
  ·exact Qrj
  ·exact Qrs
  ·exact Qnw
  ·exact Qp0
  ·exact Qoa
  ·exact Qp2
  ·exact Qod
  ·exact Qnt
  ·exact Qne
  ·exact Qp3
  ·exact Qnb
  ·exact Qnk
  ·exact Qof
  ·exact Qo4
  ·exact Qnu
  ·exact Qng
  ·exact Qot
  ·exact Qob
end
end Go.Av
