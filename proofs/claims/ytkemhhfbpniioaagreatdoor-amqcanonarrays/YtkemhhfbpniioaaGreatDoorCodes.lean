/- The law. Part of a proof of a given statement: for every input the law returns true and the arguments read as before; no condition beyond the given row. -/
import Derived.Test.YtkemhhfbpniioaaGreatDoorTab16
namespace Go.Av
noncomputable section
open Go.Proofs
set_option maxRecDepth 100000
attribute [local irreducible] U6 Xv Q7q Q9j Q8
def ofB (n : Int) : Bool := decide (bsI n < 40) && decide (Uj (bsI n) = n)
def ofC (n : Int) : List PV := if ofB n = true then Qd2 (bsI n) else Qfc 0 0 0 false false
theorem Qry (n : Int) : Zp Tryz.prog G1 107 [.int .i64 n] (.tuple [.agg (ofC n), .bool (ofB n)]) := by
 refine Q4 Qvx ?_
 refine Vp Q8l .nil ?_
 refine Vp (Qsb n) (.cons (.p _) (.cons (.p _) (.cons (.p _) .nil))) ?_
 refine ifP (fun h => ?_) (fun h => ?_)
 ·have hb : ofB n = false := by unfold ofB; revert h; cases (decide (bsI n < 40) && decide (Uj (bsI n) = n)) <;> simp
  refine Frz.tuple' (.cons (.agg' ?_) (.cons (Q6x ?_) .nil))
  ·simp only [ofC, hb, Bool.false_eq_true, if_false, Qfc]
   exact .cons (.p _) (.cons (.p _) (.cons (.p _) (.cons (.p _) (.cons (.p _) .nil))))
  ·rw [hb]
 ·have hb : ofB n = true := by unfold ofB; revert h; cases (decide (bsI n < 40) && decide (Uj (bsI n) = n)) <;> simp
  have hlt : bsI n < 40 := by simp only [ofB, Bool.and_eq_true, decide_eq_true_eq] at hb; exact hb.1
  refine Qr2 (x := Qd2 (bsI n)) (Q75 _ hlt) ?_
  refine Frz.tuple' (.cons (.agg' ?_) (.cons (Q6x ?_) .nil))
  ·simp only [ofC, hb, if_true, Qd2, Qfc]
   exact .cons (.p _) (.cons (.p _) (.cons (.p _) (.cons (.p _) (.cons (.p _) .nil))))
  ·rw [hb]
def ofT (n : Int) : Int × Int × Int × Bool × Bool := if ofB n = true then Wb (bsI n) else (0, 0, 0, false, false)
def ofR (n : Int) : List PV := Qfc (ofT n).1 (ofT n).2.1 (ofT n).2.2.1 (ofT n).2.2.2.1 (ofT n).2.2.2.2
theorem Qs8 (n : Int) : ofC n = ofR n := by
 unfold ofC ofR ofT
 split <;> rfl
theorem Qph (n : Int) : Zp Tryz.prog G1 107 [.int .i64 n] (.tuple [.agg (ofR n), .bool (ofB n)]) := by
 rw [← Qs8]; exact Qry n
end
end Go.Av
namespace Go.Av
noncomputable section
open Go.Proofs
set_option maxRecDepth 100000
attribute [local irreducible] U6 Xv Q7q Q9j Q8
def X4 (k : Int) : List Int := (List.range 17).flatMap fun (w : Nat) => (tabL.filter fun r => r.2.1 == k && r.2.2.1 == (w : Int)).map (·.1)
def Xr (k : Int) : PV := match X4 k with
 | [] => .nilSlice
 | c :: l => .slice 1 ((c :: l).map fun c => [.int .i64 c])
def Qg6 (k : Nat) : Int := (Wb k).2.1
theorem Qi5 : ∀ k, k < 40 → 1 ≤ Qg6 k ∧ Qg6 k ≤ 25 := by decide +kernel
theorem Q0o (k : Int) (h : k < 1 ∨ 25 < k) : X4 k = [] := by
 unfold X4
 rw [List.flatMap_eq_nil_iff]
 intro w _
 rw [List.map_eq_nil_iff, List.filter_eq_nil_iff]
 intro r hr
 have hall : (tabL.all fun r => decide (1 ≤ r.2.1 ∧ r.2.1 ≤ 25)) = true := by decide +kernel
 have := List.all_eq_true.1 hall r hr
 simp only [decide_eq_true_eq] at this
 simp only [Bool.and_eq_true, beq_iff_eq, not_and]
 intro h1
 omega
theorem Qfg : Zp Tryz.prog G1 139 [.nilSlice, .func (.func 140) [] []] (.tuple []) := Qn W5 (N := 1000) (d := 40) (by kernel_rfl)
def coT (kind : Int) (i : Nat) : List AV := .p (.int .i64 kind) :: .any :: .any :: .p .nilSlice :: .any :: .any :: .any :: .any :: .any :: .p Qkk :: .p (.int .i64 40) :: .p (.int .i64 i) :: List.replicate 27 .any
def coU (_ : Unit) : List AV := .any :: .any :: .any :: .any :: .any :: .any :: .p .nilSlice :: .any :: .any :: .any :: .any :: .any :: .any :: .any :: .any :: .any :: .any :: .any :: .any :: .any :: .any :: .any :: .any :: .any :: .any :: .any :: .any :: .p (.int .i64 0) :: .p (.int .i64 0) :: List.replicate 10 .any
theorem Qix (kind : Int) (h : kind < 1 ∨ 25 < kind) : Zp Tryz.prog G1 117 [.int .i64 kind] .nilSlice := by
 refine Q4 Qw4 ?_
 refine Vp Q8l .nil ?_
 refine Q7a (coT kind) (fun _ => []) (fun i => i ≤ 40) (fun i => 40 - i) 0 (Nat.zero_le _) ⟨⟨rfl, rfl, rfl, rfl, rfl, trivial⟩, rfl, rfl, rfl⟩ (fun _ _ => Nat.le_refl _) (fun i hi => ?_)
 refine ifP (fun hc => ?_) (fun hc => ?_)
 ·have hlt : i < 40 := by unfold Q8 at hc; simp at hc; omega
  refine Qr2 (x := Qd2 i) (Q75 _ hlt) ?_
  refine ifP (fun hk => ?_) (fun hk => ?_)
  ·exfalso
   unfold Q8 at hk
   have hk : Qg6 i = kind := by simpa [Qg6] using hk
   have := Qi5 i hlt
   omega
  ·refine ⟨i + 1, by show i + 1 ≤ 40; omega, by show 40 - (i + 1) < 40 - i; omega, ⟨rfl, rfl, rfl, rfl, ?_, trivial⟩, rfl, rfl, rfl⟩
   rw [IntWalk.i64_in ((i : Int) + 1) (by omega)]; rfl
 ·refine Vp Qfg (.cons (.p _) (.cons (.p _) .nil)) ?_
  refine Q7a coU (fun _ => []) (fun _ => True) (fun _ => 0) () trivial ⟨⟨rfl, rfl, rfl, trivial⟩, rfl, rfl, rfl⟩ (fun _ _ => Nat.le_refl _) (fun i hi => ?_)
  refine ifF (by unfold Q8; decide) ?_
  exact Q6x rfl
end
end Go.Av
namespace Go.Av
noncomputable section
open Go.Proofs
set_option maxRecDepth 1000000
theorem Qql : Zp Tryz.prog G1 117 [.int .i64 1] (Xr 1) := Qn W5 (N := 1000) (d := 40) (by kernel_rfl)
theorem Qqx : Zp Tryz.prog G1 117 [.int .i64 2] (Xr 2) := Qn W5 (N := 1000) (d := 40) (by kernel_rfl)
theorem Qp7 : Zp Tryz.prog G1 117 [.int .i64 3] (Xr 3) := Qn W5 (N := 1000) (d := 40) (by kernel_rfl)
theorem Qqg : Zp Tryz.prog G1 117 [.int .i64 4] (Xr 4) := Qn W5 (N := 1000) (d := 40) (by kernel_rfl)
theorem Qp1 : Zp Tryz.prog G1 117 [.int .i64 5] (Xr 5) := Qn W5 (N := 1000) (d := 40) (by kernel_rfl)
theorem Qq1 : Zp Tryz.prog G1 117 [.int .i64 6] (Xr 6) := Qn W5 (N := 1000) (d := 40) (by kernel_rfl)
theorem Qpj : Zp Tryz.prog G1 117 [.int .i64 7] (Xr 7) := Qn W5 (N := 1000) (d := 40) (by kernel_rfl)
theorem Qpf : Zp Tryz.prog G1 117 [.int .i64 8] (Xr 8) := Qn W5 (N := 1000) (d := 40) (by kernel_rfl)
theorem Qq5 : Zp Tryz.prog G1 117 [.int .i64 9] (Xr 9) := Qn W5 (N := 1000) (d := 40) (by kernel_rfl)
theorem Qmm : Zp Tryz.prog G1 117 [.int .i64 10] (Xr 10) := Qn W5 (N := 1000) (d := 40) (by kernel_rfl)
theorem Qm8 : Zp Tryz.prog G1 117 [.int .i64 11] (Xr 11) := Qn W5 (N := 1000) (d := 40) (by kernel_rfl)
theorem Qo3 : Zp Tryz.prog G1 117 [.int .i64 12] (Xr 12) := Qn W5 (N := 1000) (d := 40) (by kernel_rfl)
theorem Qnr : Zp Tryz.prog G1 117 [.int .i64 13] (Xr 13) := Qn W5 (N := 1000) (d := 40) (by kernel_rfl)
theorem Qmv : Zp Tryz.prog G1 117 [.int .i64 14] (Xr 14) := Qn W5 (N := 1000) (d := 40) (by kernel_rfl)
theorem Qm7 : Zp Tryz.prog G1 117 [.int .i64 15] (Xr 15) := Qn W5 (N := 1000) (d := 40) (by kernel_rfl)
theorem Qml : Zp Tryz.prog G1 117 [.int .i64 16] (Xr 16) := Qn W5 (N := 1000) (d := 40) (by kernel_rfl)
theorem Qnj : Zp Tryz.prog G1 117 [.int .i64 17] (Xr 17) := Qn W5 (N := 1000) (d := 40) (by kernel_rfl)
theorem Qnq : Zp Tryz.prog G1 117 [.int .i64 18] (Xr 18) := Qn W5 (N := 1000) (d := 40) (by kernel_rfl)
theorem Qng : Zp Tryz.prog G1 117 [.int .i64 19] (Xr 19) := Qn W5 (N := 1000) (d := 40) (by kernel_rfl)
theorem Qnu : Zp Tryz.prog G1 117 [.int .i64 20] (Xr 20) := Qn W5 (N := 1000) (d := 40) (by kernel_rfl)
theorem Qmf : Zp Tryz.prog G1 117 [.int .i64 21] (Xr 21) := Qn W5 (N := 1000) (d := 40) (by kernel_rfl)
theorem Qnv : Zp Tryz.prog G1 117 [.int .i64 22] (Xr 22) := Qn W5 (N := 1000) (d := 40) (by kernel_rfl)
theorem Qma : Zp Tryz.prog G1 117 [.int .i64 23] (Xr 23) := Qn W5 (N := 1000) (d := 40) (by kernel_rfl)
theorem Qn0 : Zp Tryz.prog G1 117 [.int .i64 24] (Xr 24) := Qn W5 (N := 1000) (d := 40) (by kernel_rfl)
theorem Qn6 : Zp Tryz.prog G1 117 [.int .i64 25] (Xr 25) := Qn W5 (N := 1000) (d := 40) (by kernel_rfl)
theorem Qiz (kind : Int) : Zp Tryz.prog G1 117 [.int .i64 kind] (Xr kind) := by
 by_cases h : kind < 1 ∨ 25 < kind
 ·have := Qix kind h
  rw [Xr, Q0o kind h]; exact this
 ·have h1 : 1 ≤ kind := by omega
  have h2 : kind ≤ 25 := by omega
  have h3 : kind = 1 ∨ kind = 2 ∨ kind = 3 ∨ kind = 4 ∨ kind = 5 ∨ kind = 6 ∨ kind = 7 ∨ kind = 8 ∨ kind = 9 ∨ kind = 10 ∨ kind = 11 ∨ kind = 12 ∨ kind = 13 ∨ kind = 14 ∨ kind = 15 ∨ kind = 16 ∨ kind = 17 ∨ kind = 18 ∨ kind = 19 ∨ kind = 20 ∨ kind = 21 ∨ kind = 22 ∨ kind = 23 ∨ kind = 24 ∨ kind = 25 := by omega
  clear h h1 h2
  rcases h3 with rfl | rfl | rfl | rfl | rfl | rfl | rfl | rfl | rfl | rfl | rfl | rfl | rfl | rfl | rfl | rfl | rfl | rfl | rfl | rfl | rfl | rfl | rfl | rfl | rfl
  ·exact Qql
  ·exact Qqx
  ·exact Qp7
  ·exact Qqg
  ·exact Qp1
  ·exact Qq1
  ·exact Qpj
  ·exact Qpf
  ·exact Qq5
  ·exact Qmm
  ·exact Qm8
  ·exact Qo3
  ·exact Qnr
  ·exact Qmv
  ·exact Qm7
  ·exact Qml
  ·exact Qnj
  ·exact Qnq
  ·exact Qng
  ·exact Qnu
  ·exact Qmf
  ·exact Qnv
  ·exact Qma
  ·exact Qn0
  ·exact Qn6
end
end Go.Av
