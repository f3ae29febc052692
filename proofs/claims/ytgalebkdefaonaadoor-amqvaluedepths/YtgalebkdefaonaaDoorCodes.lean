/- The law. Part of a proof of a given statement: for every input the law returns true and the arguments read as before; no condition beyond the given row. -/
import Derived.Test.YtgalebkdefaonaaDoorTab16
namespace Go.Av
noncomputable section
open Go.Proofs
set_option maxRecDepth 100000
attribute [local irreducible] dcallP CallsA LoopA DrawA cmpI
/-- is there such a constructor? -/
def ofB (n : Int) : Bool := decide (bsI n < 40) && decide (codeAt (bsI n) = n)
def ofC (n : Int) : List PV := if ofB n = true then rowAt (bsI n) else ctorC 0 0 0 false false
theorem of_ctr (n : Int) : Pure Tryd.prog G1 19 [.int .i64 n] (.tuple [.agg (ofC n), .bool (ofB n)]) := by
  refine pure_of_ev k19 ?_
  refine call_pure table_ctr .nil ?_
  refine call_pure (bs_ctr n) (.cons (.p _) (.cons (.p _) (.cons (.p _) .nil))) ?_
  refine ifP (fun h => ?_) (fun h => ?_)
  · have hb : ofB n = false := by unfold ofB; revert h; cases (decide (bsI n < 40) && decide (codeAt (bsI n) = n)) <;> simp
    refine Frz.tuple' (.cons (.agg' ?_) (.cons (frz_p ?_) .nil))
    · simp only [ofC, hb, Bool.false_eq_true, if_false, ctorC]
      exact .cons (.p _) (.cons (.p _) (.cons (.p _) (.cons (.p _) (.cons (.p _) .nil))))
    · rw [hb]
  · have hb : ofB n = true := by unfold ofB; revert h; cases (decide (bsI n < 40) && decide (codeAt (bsI n) = n)) <;> simp
    have hlt : bsI n < 40 := by simp only [ofB, Bool.and_eq_true, decide_eq_true_eq] at hb; exact hb.1
    refine idxP (x := rowAt (bsI n)) (tabR_get _ hlt) ?_
    refine Frz.tuple' (.cons (.agg' ?_) (.cons (frz_p ?_) .nil))
    · simp only [ofC, hb, if_true, rowAt, ctorC]
      exact .cons (.p _) (.cons (.p _) (.cons (.p _) (.cons (.p _) (.cons (.p _) .nil))))
    · rw [hb]
/-- the constructor of a code; nothing: zeros -/
def ofT (n : Int) : Int × Int × Int × Bool × Bool := if ofB n = true then tabAt (bsI n) else (0, 0, 0, false, false)
def ofR (n : Int) : List PV := ctorC (ofT n).1 (ofT n).2.1 (ofT n).2.2.1 (ofT n).2.2.2.1 (ofT n).2.2.2.2
theorem ofR_eq (n : Int) : ofC n = ofR n := by
  unfold ofC ofR ofT
  split <;> rfl
theorem of_ctr2 (n : Int) : Pure Tryd.prog G1 19 [.int .i64 n] (.tuple [.agg (ofR n), .bool (ofB n)]) := by
  rw [← ofR_eq]; exact of_ctr n
end
end Go.Av
namespace Go.Av
noncomputable section
open Go.Proofs
set_option maxRecDepth 100000
attribute [local irreducible] dcallP CallsA LoopA DrawA cmpI
/-- a kind's constructors, from the shortest one on -/
def codesF (k : Int) : List Int := (List.range 17).flatMap fun (w : Nat) => (tabL.filter fun r => r.2.1 == k && r.2.2.1 == (w : Int)).map (·.1)
def codesPV (k : Int) : PV := match codesF k with
  | [] => .nilSlice
  | c :: l => .slice 1 ((c :: l).map fun c => [.int .i64 c])
def kindAt (k : Nat) : Int := (tabAt k).2.1
theorem kind_range : ∀ k, k < 40 → 1 ≤ kindAt k ∧ kindAt k ≤ 25 := by decide +kernel
theorem codesF_out (k : Int) (h : k < 1 ∨ 25 < k) : codesF k = [] := by
  unfold codesF
  rw [List.flatMap_eq_nil_iff]
  intro w _
  rw [List.map_eq_nil_iff, List.filter_eq_nil_iff]
  intro r hr
  have hall : (tabL.all fun r => decide (1 ≤ r.2.1 ∧ r.2.1 ≤ 25)) = true := by decide +kernel
  have := List.all_eq_true.1 hall r hr
  simp only [decide_eq_true_eq] at this
  simp only [Bool.and_eq_true, beq_iff_eq, not_and]
  intro h1
  omega
theorem sortNil_ctr : Pure Tryd.prog G1 56 [.nilSlice, .func (.func 57) [] []] (.tuple []) := pure_closed2 knT1_ok (N := 1000) (d := 40) (by kernel_rfl)
def coT (kind : Int) (i : Nat) : List AV := .p (.int .i64 kind) :: .any :: .any :: .p .nilSlice :: .any :: .any :: .any :: .any :: .any :: .p tabPV :: .p (.int .i64 40) :: .p (.int .i64 i) :: List.replicate 27 .any
def coU (_ : Unit) : List AV := .any :: .any :: .any :: .any :: .any :: .any :: .p .nilSlice :: .any :: .any :: .any :: .any :: .any :: .any :: .any :: .any :: .any :: .any :: .any :: .any :: .any :: .any :: .any :: .any :: .any :: .any :: .any :: .any :: .p (.int .i64 0) :: .p (.int .i64 0) :: List.replicate 10 .any
theorem codes_out (kind : Int) (h : kind < 1 ∨ 25 < kind) : Pure Tryd.prog G1 16 [.int .i64 kind] .nilSlice := by
  refine pure_of_ev k16 ?_
  refine call_pure table_ctr .nil ?_
  refine loop_rule (coT kind) (fun _ => []) (fun i => i ≤ 40) (fun i => 40 - i) 0 (Nat.zero_le _) ⟨⟨rfl, rfl, rfl, rfl, rfl, trivial⟩, rfl, rfl, rfl⟩ (fun _ _ => Nat.le_refl _) (fun i hi => ?_)
  refine ifP (fun hc => ?_) (fun hc => ?_)
  · have hlt : i < 40 := by unfold cmpI at hc; simp at hc; omega
    refine idxP (x := rowAt i) (tabR_get _ hlt) ?_
    refine ifP (fun hk => ?_) (fun hk => ?_)
    · exfalso
      unfold cmpI at hk
      have hk : kindAt i = kind := by simpa [kindAt] using hk
      have := kind_range i hlt
      omega
    · refine ⟨i + 1, by show i + 1 ≤ 40; omega, by show 40 - (i + 1) < 40 - i; omega, ⟨rfl, rfl, rfl, rfl, ?_, trivial⟩, rfl, rfl, rfl⟩
      rw [IntWalk.i64_in ((i : Int) + 1) (by omega)]; rfl
  · refine call_pure sortNil_ctr (.cons (.p _) (.cons (.p _) .nil)) ?_
    refine loop_rule coU (fun _ => []) (fun _ => True) (fun _ => 0) () trivial ⟨⟨rfl, rfl, rfl, trivial⟩, rfl, rfl, rfl⟩ (fun _ _ => Nat.le_refl _) (fun i hi => ?_)
    refine ifF (by unfold cmpI; decide) ?_
    exact frz_p rfl
end
end Go.Av
namespace Go.Av
noncomputable section
open Go.Proofs
set_option maxRecDepth 1000000
theorem codes_1 : Pure Tryd.prog G1 16 [.int .i64 1] (codesPV 1) := pure_closed2 knT1_ok (N := 1000) (d := 40) (by kernel_rfl)
theorem codes_2 : Pure Tryd.prog G1 16 [.int .i64 2] (codesPV 2) := pure_closed2 knT1_ok (N := 1000) (d := 40) (by kernel_rfl)
theorem codes_3 : Pure Tryd.prog G1 16 [.int .i64 3] (codesPV 3) := pure_closed2 knT1_ok (N := 1000) (d := 40) (by kernel_rfl)
theorem codes_4 : Pure Tryd.prog G1 16 [.int .i64 4] (codesPV 4) := pure_closed2 knT1_ok (N := 1000) (d := 40) (by kernel_rfl)
theorem codes_5 : Pure Tryd.prog G1 16 [.int .i64 5] (codesPV 5) := pure_closed2 knT1_ok (N := 1000) (d := 40) (by kernel_rfl)
theorem codes_6 : Pure Tryd.prog G1 16 [.int .i64 6] (codesPV 6) := pure_closed2 knT1_ok (N := 1000) (d := 40) (by kernel_rfl)
theorem codes_7 : Pure Tryd.prog G1 16 [.int .i64 7] (codesPV 7) := pure_closed2 knT1_ok (N := 1000) (d := 40) (by kernel_rfl)
theorem codes_8 : Pure Tryd.prog G1 16 [.int .i64 8] (codesPV 8) := pure_closed2 knT1_ok (N := 1000) (d := 40) (by kernel_rfl)
theorem codes_9 : Pure Tryd.prog G1 16 [.int .i64 9] (codesPV 9) := pure_closed2 knT1_ok (N := 1000) (d := 40) (by kernel_rfl)
theorem codes_10 : Pure Tryd.prog G1 16 [.int .i64 10] (codesPV 10) := pure_closed2 knT1_ok (N := 1000) (d := 40) (by kernel_rfl)
theorem codes_11 : Pure Tryd.prog G1 16 [.int .i64 11] (codesPV 11) := pure_closed2 knT1_ok (N := 1000) (d := 40) (by kernel_rfl)
theorem codes_12 : Pure Tryd.prog G1 16 [.int .i64 12] (codesPV 12) := pure_closed2 knT1_ok (N := 1000) (d := 40) (by kernel_rfl)
theorem codes_13 : Pure Tryd.prog G1 16 [.int .i64 13] (codesPV 13) := pure_closed2 knT1_ok (N := 1000) (d := 40) (by kernel_rfl)
theorem codes_14 : Pure Tryd.prog G1 16 [.int .i64 14] (codesPV 14) := pure_closed2 knT1_ok (N := 1000) (d := 40) (by kernel_rfl)
theorem codes_15 : Pure Tryd.prog G1 16 [.int .i64 15] (codesPV 15) := pure_closed2 knT1_ok (N := 1000) (d := 40) (by kernel_rfl)
theorem codes_16 : Pure Tryd.prog G1 16 [.int .i64 16] (codesPV 16) := pure_closed2 knT1_ok (N := 1000) (d := 40) (by kernel_rfl)
theorem codes_17 : Pure Tryd.prog G1 16 [.int .i64 17] (codesPV 17) := pure_closed2 knT1_ok (N := 1000) (d := 40) (by kernel_rfl)
theorem codes_18 : Pure Tryd.prog G1 16 [.int .i64 18] (codesPV 18) := pure_closed2 knT1_ok (N := 1000) (d := 40) (by kernel_rfl)
theorem codes_19 : Pure Tryd.prog G1 16 [.int .i64 19] (codesPV 19) := pure_closed2 knT1_ok (N := 1000) (d := 40) (by kernel_rfl)
theorem codes_20 : Pure Tryd.prog G1 16 [.int .i64 20] (codesPV 20) := pure_closed2 knT1_ok (N := 1000) (d := 40) (by kernel_rfl)
theorem codes_21 : Pure Tryd.prog G1 16 [.int .i64 21] (codesPV 21) := pure_closed2 knT1_ok (N := 1000) (d := 40) (by kernel_rfl)
theorem codes_22 : Pure Tryd.prog G1 16 [.int .i64 22] (codesPV 22) := pure_closed2 knT1_ok (N := 1000) (d := 40) (by kernel_rfl)
theorem codes_23 : Pure Tryd.prog G1 16 [.int .i64 23] (codesPV 23) := pure_closed2 knT1_ok (N := 1000) (d := 40) (by kernel_rfl)
theorem codes_24 : Pure Tryd.prog G1 16 [.int .i64 24] (codesPV 24) := pure_closed2 knT1_ok (N := 1000) (d := 40) (by kernel_rfl)
theorem codes_25 : Pure Tryd.prog G1 16 [.int .i64 25] (codesPV 25) := pure_closed2 knT1_ok (N := 1000) (d := 40) (by kernel_rfl)
theorem codes_ctr (kind : Int) : Pure Tryd.prog G1 16 [.int .i64 kind] (codesPV kind) := by
  by_cases h : kind < 1 ∨ 25 < kind
  · have := codes_out kind h
    rw [codesPV, codesF_out kind h]; exact this
  · have h1 : 1 ≤ kind := by omega
    have h2 : kind ≤ 25 := by omega
    have h3 : kind = 1 ∨ kind = 2 ∨ kind = 3 ∨ kind = 4 ∨ kind = 5 ∨ kind = 6 ∨ kind = 7 ∨ kind = 8 ∨ kind = 9 ∨ kind = 10 ∨ kind = 11 ∨ kind = 12 ∨ kind = 13 ∨ kind = 14 ∨ kind = 15 ∨ kind = 16 ∨ kind = 17 ∨ kind = 18 ∨ kind = 19 ∨ kind = 20 ∨ kind = 21 ∨ kind = 22 ∨ kind = 23 ∨ kind = 24 ∨ kind = 25 := by omega
    clear h h1 h2
    rcases h3 with rfl | rfl | rfl | rfl | rfl | rfl | rfl | rfl | rfl | rfl | rfl | rfl | rfl | rfl | rfl | rfl | rfl | rfl | rfl | rfl | rfl | rfl | rfl | rfl | rfl
    · exact codes_1
    · exact codes_2
    · exact codes_3
    · exact codes_4
    · exact codes_5
    · exact codes_6
    · exact codes_7
    · exact codes_8
    · exact codes_9
    · exact codes_10
    · exact codes_11
    · exact codes_12
    · exact codes_13
    · exact codes_14
    · exact codes_15
    · exact codes_16
    · exact codes_17
    · exact codes_18
    · exact codes_19
    · exact codes_20
    · exact codes_21
    · exact codes_22
    · exact codes_23
    · exact codes_24
    · exact codes_25
end
end Go.Av
