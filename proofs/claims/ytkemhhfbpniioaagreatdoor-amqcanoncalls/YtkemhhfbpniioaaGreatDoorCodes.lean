/- The law. Part of a proof of a given statement: for every input the law returns true and the arguments read as before; no condition beyond the given row. -/
import Derived.Test.YtkemhhfbpniioaaGreatDoorTab16
namespace Go.Av
noncomputable section
open Go.Proofs
set_option maxRecDepth 100000
attribute [local irreducible] Jf Ws Q9a Qa6 Q5
def ofB (n : Int) : Bool := decide (bsI n < 40) && decide (Gs (bsI n) = n)
def ofC (n : Int) : List PV := if ofB n = true then Qgj (bsI n) else Qi7 0 0 0 false false
theorem Qv2 (n : Int) : Qz Tryz.prog G1 107 [.int .i64 n] (.tuple [.agg (ofC n), .bool (ofB n)]) := by
 refine Q4 Qzh ?_
 refine Jg Qam .nil ?_
 refine Jg (Qui n) (.cons (.p _) (.cons (.p _) (.cons (.p _) .nil))) ?_
 refine ifP (fun h => ?_) (fun h => ?_)
 ·have hb : ofB n = false := by unfold ofB; revert h; cases (decide (bsI n < 40) && decide (Gs (bsI n) = n)) <;> simp
  refine Frz.tuple' (.cons (.agg' ?_) (.cons (Q9z ?_) .nil))
  ·simp only [ofC, hb, Bool.false_eq_true, if_false, Qi7]
   exact .cons (.p _) (.cons (.p _) (.cons (.p _) (.cons (.p _) (.cons (.p _) .nil))))
  ·rw [hb]
 ·have hb : ofB n = true := by unfold ofB; revert h; cases (decide (bsI n < 40) && decide (Gs (bsI n) = n)) <;> simp
  have hlt : bsI n < 40 := by simp only [ofB, Bool.and_eq_true, decide_eq_true_eq] at hb; exact hb.1
  refine Quc (x := Qgj (bsI n)) (Qae _ hlt) ?_
  refine Frz.tuple' (.cons (.agg' ?_) (.cons (Q9z ?_) .nil))
  ·simp only [ofC, hb, if_true, Qgj, Qi7]
   exact .cons (.p _) (.cons (.p _) (.cons (.p _) (.cons (.p _) (.cons (.p _) .nil))))
  ·rw [hb]
def ofT (n : Int) : Int × Int × Int × Bool × Bool := if ofB n = true then Vs (bsI n) else (0, 0, 0, false, false)
def ofR (n : Int) : List PV := Qi7 (ofT n).1 (ofT n).2.1 (ofT n).2.2.1 (ofT n).2.2.2.1 (ofT n).2.2.2.2
theorem Qva (n : Int) : ofC n = ofR n := by
 unfold ofC ofR ofT
 split <;> rfl
theorem Qtk (n : Int) : Qz Tryz.prog G1 107 [.int .i64 n] (.tuple [.agg (ofR n), .bool (ofB n)]) := by
 rw [← Qva]; exact Qv2 n
end
end Go.Av
namespace Go.Av
noncomputable section
open Go.Proofs
set_option maxRecDepth 100000
attribute [local irreducible] Jf Ws Q9a Qa6 Q5
def Ux (k : Int) : List Int := (List.range 17).flatMap fun (w : Nat) => (tabL.filter fun r => r.2.1 == k && r.2.2.1 == (w : Int)).map (·.1)
def V4 (k : Int) : PV := match Ux k with
 | [] => .nilSlice
 | c :: l => .slice 1 ((c :: l).map fun c => [.int .i64 c])
def Qkt (k : Nat) : Int := (Vs k).2.1
theorem Qkx : ∀ k, k < 40 → 1 ≤ Qkt k ∧ Qkt k ≤ 25 := by decide +kernel
theorem Q6a (k : Int) (h : k < 1 ∨ 25 < k) : Ux k = [] := by
 unfold Ux
 rw [List.flatMap_eq_nil_iff]
 intro w _
 rw [List.map_eq_nil_iff, List.filter_eq_nil_iff]
 intro r hr
 have hall : (tabL.all fun r => decide (1 ≤ r.2.1 ∧ r.2.1 ≤ 25)) = true := by decide +kernel
 have := List.all_eq_true.1 hall r hr
 simp only [decide_eq_true_eq] at this
 simp only [Bool.and_eq_true, beq_iff_eq, not_and]
 intro h1
 omega
theorem Qiu : Qz Tryz.prog G1 139 [.nilSlice, .func (.func 140) [] []] (.tuple []) := Qv Vp (N := 1000) (d := 40) (by kernel_rfl)
def coT (kind : Int) (i : Nat) : List AV := .p (.int .i64 kind) :: .any :: .any :: .p .nilSlice :: .any :: .any :: .any :: .any :: .any :: .p Qmo :: .p (.int .i64 40) :: .p (.int .i64 i) :: List.replicate 27 .any
def coU (_ : Unit) : List AV := .any :: .any :: .any :: .any :: .any :: .any :: .p .nilSlice :: .any :: .any :: .any :: .any :: .any :: .any :: .any :: .any :: .any :: .any :: .any :: .any :: .any :: .any :: .any :: .any :: .any :: .any :: .any :: .any :: .p (.int .i64 0) :: .p (.int .i64 0) :: List.replicate 10 .any
theorem Qoq (kind : Int) (h : kind < 1 ∨ 25 < kind) : Qz Tryz.prog G1 117 [.int .i64 kind] .nilSlice := by
 refine Q4 Qyw ?_
 refine Jg Qam .nil ?_
 refine Qc9 (coT kind) (fun _ => []) (fun i => i ≤ 40) (fun i => 40 - i) 0 (Nat.zero_le _) ⟨⟨rfl, rfl, rfl, rfl, rfl, trivial⟩, rfl, rfl, rfl⟩ (fun _ _ => Nat.le_refl _) (fun i hi => ?_)
 refine ifP (fun hc => ?_) (fun hc => ?_)
 ·have hlt : i < 40 := by unfold Q5 at hc; simp at hc; omega
  refine Quc (x := Qgj i) (Qae _ hlt) ?_
  refine ifP (fun hk => ?_) (fun hk => ?_)
  ·exfalso
   unfold Q5 at hk
   have hk : Qkt i = kind := by simpa [Qkt] using hk
   have := Qkx i hlt
   omega
  ·refine ⟨i + 1, by show i + 1 ≤ 40; omega, by show 40 - (i + 1) < 40 - i; omega, ⟨rfl, rfl, rfl, rfl, ?_, trivial⟩, rfl, rfl, rfl⟩
   rw [IntWalk.i64_in ((i : Int) + 1) (by omega)]; rfl
 ·refine Jg Qiu (.cons (.p _) (.cons (.p _) .nil)) ?_
  refine Qc9 coU (fun _ => []) (fun _ => True) (fun _ => 0) () trivial ⟨⟨rfl, rfl, rfl, trivial⟩, rfl, rfl, rfl⟩ (fun _ _ => Nat.le_refl _) (fun i hi => ?_)
  refine ifF (by unfold Q5; decide) ?_
  exact Q9z rfl
end
end Go.Av
namespace Go.Av
noncomputable section
open Go.Proofs
set_option maxRecDepth 1000000
theorem Qtu : Qz Tryz.prog G1 117 [.int .i64 1] (V4 1) := Qv Vp (N := 1000) (d := 40) (by kernel_rfl)
theorem Qsv : Qz Tryz.prog G1 117 [.int .i64 2] (V4 2) := Qv Vp (N := 1000) (d := 40) (by kernel_rfl)
theorem Qu0 : Qz Tryz.prog G1 117 [.int .i64 3] (V4 3) := Qv Vp (N := 1000) (d := 40) (by kernel_rfl)
theorem Qt1 : Qz Tryz.prog G1 117 [.int .i64 4] (V4 4) := Qv Vp (N := 1000) (d := 40) (by kernel_rfl)
theorem Qtx : Qz Tryz.prog G1 117 [.int .i64 5] (V4 5) := Qv Vp (N := 1000) (d := 40) (by kernel_rfl)
theorem Qu1 : Qz Tryz.prog G1 117 [.int .i64 6] (V4 6) := Qv Vp (N := 1000) (d := 40) (by kernel_rfl)
theorem Qsk : Qz Tryz.prog G1 117 [.int .i64 7] (V4 7) := Qv Vp (N := 1000) (d := 40) (by kernel_rfl)
theorem Qtc : Qz Tryz.prog G1 117 [.int .i64 8] (V4 8) := Qv Vp (N := 1000) (d := 40) (by kernel_rfl)
theorem Qt9 : Qz Tryz.prog G1 117 [.int .i64 9] (V4 9) := Qv Vp (N := 1000) (d := 40) (by kernel_rfl)
theorem Qqd : Qz Tryz.prog G1 117 [.int .i64 10] (V4 10) := Qv Vp (N := 1000) (d := 40) (by kernel_rfl)
theorem Qqp : Qz Tryz.prog G1 117 [.int .i64 11] (V4 11) := Qv Vp (N := 1000) (d := 40) (by kernel_rfl)
theorem Qr8 : Qz Tryz.prog G1 117 [.int .i64 12] (V4 12) := Qv Vp (N := 1000) (d := 40) (by kernel_rfl)
theorem Qqu : Qz Tryz.prog G1 117 [.int .i64 13] (V4 13) := Qv Vp (N := 1000) (d := 40) (by kernel_rfl)
theorem Qqq : Qz Tryz.prog G1 117 [.int .i64 14] (V4 14) := Qv Vp (N := 1000) (d := 40) (by kernel_rfl)
theorem Qrf : Qz Tryz.prog G1 117 [.int .i64 15] (V4 15) := Qv Vp (N := 1000) (d := 40) (by kernel_rfl)
theorem Qrb : Qz Tryz.prog G1 117 [.int .i64 16] (V4 16) := Qv Vp (N := 1000) (d := 40) (by kernel_rfl)
theorem Qqv : Qz Tryz.prog G1 117 [.int .i64 17] (V4 17) := Qv Vp (N := 1000) (d := 40) (by kernel_rfl)
theorem Qqg : Qz Tryz.prog G1 117 [.int .i64 18] (V4 18) := Qv Vp (N := 1000) (d := 40) (by kernel_rfl)
theorem Qqx : Qz Tryz.prog G1 117 [.int .i64 19] (V4 19) := Qv Vp (N := 1000) (d := 40) (by kernel_rfl)
theorem Qrh : Qz Tryz.prog G1 117 [.int .i64 20] (V4 20) := Qv Vp (N := 1000) (d := 40) (by kernel_rfl)
theorem Qr0 : Qz Tryz.prog G1 117 [.int .i64 21] (V4 21) := Qv Vp (N := 1000) (d := 40) (by kernel_rfl)
theorem Qra : Qz Tryz.prog G1 117 [.int .i64 22] (V4 22) := Qv Vp (N := 1000) (d := 40) (by kernel_rfl)
theorem Qpw : Qz Tryz.prog G1 117 [.int .i64 23] (V4 23) := Qv Vp (N := 1000) (d := 40) (by kernel_rfl)
theorem Qpo : Qz Tryz.prog G1 117 [.int .i64 24] (V4 24) := Qv Vp (N := 1000) (d := 40) (by kernel_rfl)
theorem Qpu : Qz Tryz.prog G1 117 [.int .i64 25] (V4 25) := Qv Vp (N := 1000) (d := 40) (by kernel_rfl)
theorem Qob (kind : Int) : Qz Tryz.prog G1 117 [.int .i64 kind] (V4 kind) := by
 by_cases h : kind < 1 ∨ 25 < kind
 ·have := Qoq kind h
  rw [V4, Q6a kind h]; exact this
 ·have h1 : 1 ≤ kind := by omega
  have h2 : kind ≤ 25 := by omega
  have h3 : kind = 1 ∨ kind = 2 ∨ kind = 3 ∨ kind = 4 ∨ kind = 5 ∨ kind = 6 ∨ kind = 7 ∨ kind = 8 ∨ kind = 9 ∨ kind = 10 ∨ kind = 11 ∨ kind = 12 ∨ kind = 13 ∨ kind = 14 ∨ kind = 15 ∨ kind = 16 ∨ kind = 17 ∨ kind = 18 ∨ kind = 19 ∨ kind = 20 ∨ kind = 21 ∨ kind = 22 ∨ kind = 23 ∨ kind = 24 ∨ kind = 25 := by omega
  clear h h1 h2
  rcases h3 with rfl | rfl | rfl | rfl | rfl | rfl | rfl | rfl | rfl | rfl | rfl | rfl | rfl | rfl | rfl | rfl | rfl | rfl | rfl | rfl | rfl | rfl | rfl | rfl | rfl
  ·exact Qtu
  ·exact Qsv
  ·exact Qu0
  ·exact Qt1
  ·exact Qtx
  ·exact Qu1
  ·exact Qsk
  ·exact Qtc
  ·exact Qt9
  ·exact Qqd
  ·exact Qqp
  ·exact Qr8
  ·exact Qqu
  ·exact Qqq
  ·exact Qrf
  ·exact Qrb
  ·exact Qqv
  ·exact Qqg
  ·exact Qqx
  ·exact Qrh
  ·exact Qr0
  ·exact Qra
  ·exact Qpw
  ·exact Qpo
  ·exact Qpu
end
end Go.Av
