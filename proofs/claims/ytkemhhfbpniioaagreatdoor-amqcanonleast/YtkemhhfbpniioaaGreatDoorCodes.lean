/- The law. Part of a proof of a given statement: for every input the law returns true and the arguments read as before; no condition beyond the given row. -/
import Derived.Test.YtkemhhfbpniioaaGreatDoorTab16
namespace Go.Av
noncomputable section
open Go.Proofs
set_option maxRecDepth 100000
attribute [local irreducible] U4 Xq Q6i Q6x Q5
def ofB (n : Int) : Bool := decide (bsI n < 40) && decide (Ur (bsI n) = n)
def ofC (n : Int) : List PV := if ofB n = true then Qev (bsI n) else Qfc 0 0 0 false false
theorem Qtq (n : Int) : Zq Tryz.prog G1 107 [.int .i64 n] (.tuple [.agg (ofC n), .bool (ofB n)]) := by
 refine Q4 Qx8 ?_
 refine U8 Q8s .nil ?_
 refine U8 (Qt6 n) (.cons (.p _) (.cons (.p _) (.cons (.p _) .nil))) ?_
 refine ifP (fun h => ?_) (fun h => ?_)
 ·have hb : ofB n = false := by unfold ofB; revert h; cases (decide (bsI n < 40) && decide (Ur (bsI n) = n)) <;> simp
  refine Frz.tuple' (.cons (.agg' ?_) (.cons (Q84 ?_) .nil))
  ·simp only [ofC, hb, Bool.false_eq_true, if_false, Qfc]
   exact .cons (.p _) (.cons (.p _) (.cons (.p _) (.cons (.p _) (.cons (.p _) .nil))))
  ·rw [hb]
 ·have hb : ofB n = true := by unfold ofB; revert h; cases (decide (bsI n < 40) && decide (Ur (bsI n) = n)) <;> simp
  have hlt : bsI n < 40 := by simp only [ofB, Bool.and_eq_true, decide_eq_true_eq] at hb; exact hb.1
  refine Qsl (x := Qev (bsI n)) (Q89 _ hlt) ?_
  refine Frz.tuple' (.cons (.agg' ?_) (.cons (Q84 ?_) .nil))
  ·simp only [ofC, hb, if_true, Qev, Qfc]
   exact .cons (.p _) (.cons (.p _) (.cons (.p _) (.cons (.p _) (.cons (.p _) .nil))))
  ·rw [hb]
def ofT (n : Int) : Int × Int × Int × Bool × Bool := if ofB n = true then Xx (bsI n) else (0, 0, 0, false, false)
def ofR (n : Int) : List PV := Qfc (ofT n).1 (ofT n).2.1 (ofT n).2.2.1 (ofT n).2.2.2.1 (ofT n).2.2.2.2
theorem Qsr (n : Int) : ofC n = ofR n := by
 unfold ofC ofR ofT
 split <;> rfl
theorem Qs3 (n : Int) : Zq Tryz.prog G1 107 [.int .i64 n] (.tuple [.agg (ofR n), .bool (ofB n)]) := by
 rw [← Qsr]; exact Qtq n
end
end Go.Av
namespace Go.Av
noncomputable section
open Go.Proofs
set_option maxRecDepth 100000
attribute [local irreducible] U4 Xq Q6i Q6x Q5
def W2 (k : Int) : List Int := (List.range 17).flatMap fun (w : Nat) => (tabL.filter fun r => r.2.1 == k && r.2.2.1 == (w : Int)).map (·.1)
def Wb (k : Int) : PV := match W2 k with
 | [] => .nilSlice
 | c :: l => .slice 1 ((c :: l).map fun c => [.int .i64 c])
def Qhw (k : Nat) : Int := (Xx k).2.1
theorem Qji : ∀ k, k < 40 → 1 ≤ Qhw k ∧ Qhw k ≤ 25 := by decide +kernel
theorem Q41 (k : Int) (h : k < 1 ∨ 25 < k) : W2 k = [] := by
 unfold W2
 rw [List.flatMap_eq_nil_iff]
 intro w _
 rw [List.map_eq_nil_iff, List.filter_eq_nil_iff]
 intro r hr
 have hall : (tabL.all fun r => decide (1 ≤ r.2.1 ∧ r.2.1 ≤ 25)) = true := by decide +kernel
 have := List.all_eq_true.1 hall r hr
 simp only [decide_eq_true_eq] at this
 simp only [Bool.and_eq_true, beq_iff_eq, not_and]
 intro h1
 omega
theorem Qfz : Zq Tryz.prog G1 139 [.nilSlice, .func (.func 140) [] []] (.tuple []) := Qu Wq (N := 1000) (d := 40) (by kernel_rfl)
def coT (kind : Int) (i : Nat) : List AV := .p (.int .i64 kind) :: .any :: .any :: .p .nilSlice :: .any :: .any :: .any :: .any :: .any :: .p Qlg :: .p (.int .i64 40) :: .p (.int .i64 i) :: List.replicate 27 .any
def coU (_ : Unit) : List AV := .any :: .any :: .any :: .any :: .any :: .any :: .p .nilSlice :: .any :: .any :: .any :: .any :: .any :: .any :: .any :: .any :: .any :: .any :: .any :: .any :: .any :: .any :: .any :: .any :: .any :: .any :: .any :: .any :: .p (.int .i64 0) :: .p (.int .i64 0) :: List.replicate 10 .any
theorem Qmo (kind : Int) (h : kind < 1 ∨ 25 < kind) : Zq Tryz.prog G1 117 [.int .i64 kind] .nilSlice := by
 refine Q4 Qwy ?_
 refine U8 Q8s .nil ?_
 refine Qa7 (coT kind) (fun _ => []) (fun i => i ≤ 40) (fun i => 40 - i) 0 (Nat.zero_le _) ⟨⟨rfl, rfl, rfl, rfl, rfl, trivial⟩, rfl, rfl, rfl⟩ (fun _ _ => Nat.le_refl _) (fun i hi => ?_)
 refine ifP (fun hc => ?_) (fun hc => ?_)
 ·have hlt : i < 40 := by unfold Q5 at hc; simp at hc; omega
  refine Qsl (x := Qev i) (Q89 _ hlt) ?_
  refine ifP (fun hk => ?_) (fun hk => ?_)
  ·exfalso
   unfold Q5 at hk
   have hk : Qhw i = kind := by simpa [Qhw] using hk
   have := Qji i hlt
   omega
  ·refine ⟨i + 1, by show i + 1 ≤ 40; omega, by show 40 - (i + 1) < 40 - i; omega, ⟨rfl, rfl, rfl, rfl, ?_, trivial⟩, rfl, rfl, rfl⟩
   rw [IntWalk.i64_in ((i : Int) + 1) (by omega)]; rfl
 ·refine U8 Qfz (.cons (.p _) (.cons (.p _) .nil)) ?_
  refine Qa7 coU (fun _ => []) (fun _ => True) (fun _ => 0) () trivial ⟨⟨rfl, rfl, rfl, trivial⟩, rfl, rfl, rfl⟩ (fun _ _ => Nat.le_refl _) (fun i hi => ?_)
  refine ifF (by unfold Q5; decide) ?_
  exact Q84 rfl
end
end Go.Av
namespace Go.Av
noncomputable section
open Go.Proofs
set_option maxRecDepth 1000000
theorem Qrw : Zq Tryz.prog G1 117 [.int .i64 1] (Wb 1) := Qu Wq (N := 1000) (d := 40) (by kernel_rfl)
theorem Qrd : Zq Tryz.prog G1 117 [.int .i64 2] (Wb 2) := Qu Wq (N := 1000) (d := 40) (by kernel_rfl)
theorem Qrl : Zq Tryz.prog G1 117 [.int .i64 3] (Wb 3) := Qu Wq (N := 1000) (d := 40) (by kernel_rfl)
theorem Qrm : Zq Tryz.prog G1 117 [.int .i64 4] (Wb 4) := Qu Wq (N := 1000) (d := 40) (by kernel_rfl)
theorem Qqq : Zq Tryz.prog G1 117 [.int .i64 5] (Wb 5) := Qu Wq (N := 1000) (d := 40) (by kernel_rfl)
theorem Qrf : Zq Tryz.prog G1 117 [.int .i64 6] (Wb 6) := Qu Wq (N := 1000) (d := 40) (by kernel_rfl)
theorem Qrb : Zq Tryz.prog G1 117 [.int .i64 7] (Wb 7) := Qu Wq (N := 1000) (d := 40) (by kernel_rfl)
theorem Qrv : Zq Tryz.prog G1 117 [.int .i64 8] (Wb 8) := Qu Wq (N := 1000) (d := 40) (by kernel_rfl)
theorem Qrq : Zq Tryz.prog G1 117 [.int .i64 9] (Wb 9) := Qu Wq (N := 1000) (d := 40) (by kernel_rfl)
theorem Qoj : Zq Tryz.prog G1 117 [.int .i64 10] (Wb 10) := Qu Wq (N := 1000) (d := 40) (by kernel_rfl)
theorem Qnr : Zq Tryz.prog G1 117 [.int .i64 11] (Wb 11) := Qu Wq (N := 1000) (d := 40) (by kernel_rfl)
theorem Qph : Zq Tryz.prog G1 117 [.int .i64 12] (Wb 12) := Qu Wq (N := 1000) (d := 40) (by kernel_rfl)
theorem Qo5 : Zq Tryz.prog G1 117 [.int .i64 13] (Wb 13) := Qu Wq (N := 1000) (d := 40) (by kernel_rfl)
theorem Qpm : Zq Tryz.prog G1 117 [.int .i64 14] (Wb 14) := Qu Wq (N := 1000) (d := 40) (by kernel_rfl)
theorem Qp1 : Zq Tryz.prog G1 117 [.int .i64 15] (Wb 15) := Qu Wq (N := 1000) (d := 40) (by kernel_rfl)
theorem Qnv : Zq Tryz.prog G1 117 [.int .i64 16] (Wb 16) := Qu Wq (N := 1000) (d := 40) (by kernel_rfl)
theorem Qoc : Zq Tryz.prog G1 117 [.int .i64 17] (Wb 17) := Qu Wq (N := 1000) (d := 40) (by kernel_rfl)
theorem Qp8 : Zq Tryz.prog G1 117 [.int .i64 18] (Wb 18) := Qu Wq (N := 1000) (d := 40) (by kernel_rfl)
theorem Qom : Zq Tryz.prog G1 117 [.int .i64 19] (Wb 19) := Qu Wq (N := 1000) (d := 40) (by kernel_rfl)
theorem Qoh : Zq Tryz.prog G1 117 [.int .i64 20] (Wb 20) := Qu Wq (N := 1000) (d := 40) (by kernel_rfl)
theorem Qp0 : Zq Tryz.prog G1 117 [.int .i64 21] (Wb 21) := Qu Wq (N := 1000) (d := 40) (by kernel_rfl)
theorem Qny : Zq Tryz.prog G1 117 [.int .i64 22] (Wb 22) := Qu Wq (N := 1000) (d := 40) (by kernel_rfl)
theorem Qox : Zq Tryz.prog G1 117 [.int .i64 23] (Wb 23) := Qu Wq (N := 1000) (d := 40) (by kernel_rfl)
theorem Qok : Zq Tryz.prog G1 117 [.int .i64 24] (Wb 24) := Qu Wq (N := 1000) (d := 40) (by kernel_rfl)
theorem Qp2 : Zq Tryz.prog G1 117 [.int .i64 25] (Wb 25) := Qu Wq (N := 1000) (d := 40) (by kernel_rfl)
theorem Qlj (kind : Int) : Zq Tryz.prog G1 117 [.int .i64 kind] (Wb kind) := by
 by_cases h : kind < 1 ∨ 25 < kind
 ·have := Qmo kind h
  rw [Wb, Q41 kind h]; exact this
 ·have h1 : 1 ≤ kind := by omega
  have h2 : kind ≤ 25 := by omega
  have h3 : kind = 1 ∨ kind = 2 ∨ kind = 3 ∨ kind = 4 ∨ kind = 5 ∨ kind = 6 ∨ kind = 7 ∨ kind = 8 ∨ kind = 9 ∨ kind = 10 ∨ kind = 11 ∨ kind = 12 ∨ kind = 13 ∨ kind = 14 ∨ kind = 15 ∨ kind = 16 ∨ kind = 17 ∨ kind = 18 ∨ kind = 19 ∨ kind = 20 ∨ kind = 21 ∨ kind = 22 ∨ kind = 23 ∨ kind = 24 ∨ kind = 25 := by omega
  clear h h1 h2
  rcases h3 with rfl | rfl | rfl | rfl | rfl | rfl | rfl | rfl | rfl | rfl | rfl | rfl | rfl | rfl | rfl | rfl | rfl | rfl | rfl | rfl | rfl | rfl | rfl | rfl | rfl
  ·exact Qrw
  ·exact Qrd
  ·exact Qrl
  ·exact Qrm
  ·exact Qqq
  ·exact Qrf
  ·exact Qrb
  ·exact Qrv
  ·exact Qrq
  ·exact Qoj
  ·exact Qnr
  ·exact Qph
  ·exact Qo5
  ·exact Qpm
  ·exact Qp1
  ·exact Qnv
  ·exact Qoc
  ·exact Qp8
  ·exact Qom
  ·exact Qoh
  ·exact Qp0
  ·exact Qny
  ·exact Qox
  ·exact Qok
  ·exact Qp2
end
end Go.Av
