/- The law. Part of the proof of the given statement AmqprimCodes: for every input the law returns true and the arguments read as before; no condition beyond the given row. -/
import Derived.Test.YtgalebkdefaonaaDoorOfTwo
namespace Go.Av
noncomputable section
open Go.Proofs
set_option maxRecDepth 100000
attribute [local irreducible] dcallP CallsA LoopA DrawA cmpI
/-- a kind's constructors, from the shortest one on -/
def codesF (k : Int) : List Int := (List.range 17).flatMap fun (w : Nat) => (tabL.filter fun r => r.2.1 == k && r.2.2.1 == (w : Int)).map (·.1)
def codesPV (k : Int) : PV := match codesF k with
  | [] => .nilSlice
  | c :: l => .slice 1 ((c :: l).map fun c => [.int .i64 c])
def kindAt (k : Nat) : Int := (tabAt k).2.1
theorem kind_range : ∀ k, k < 40 → 1 ≤ kindAt k ∧ kindAt k ≤ 25 := by decide +kernel
theorem codesF_out (k : Int) (h : k < 1 ∨ 25 < k) : codesF k = [] := by
  unfold codesF
  rw [List.flatMap_eq_nil_iff]
  intro w _
  rw [List.map_eq_nil_iff, List.filter_eq_nil_iff]
  intro r hr
  have hall : (tabL.all fun r => decide (1 ≤ r.2.1 ∧ r.2.1 ≤ 25)) = true := by decide +kernel
  have := List.all_eq_true.1 hall r hr
  simp only [decide_eq_true_eq] at this
  simp only [Bool.and_eq_true, beq_iff_eq, not_and]
  intro h1
  omega
theorem sortNil_ctr : Pure Tryd.prog G1 56 [.nilSlice, .func (.func 57) [] []] (.tuple []) := pure_closed2 knT1_ok (N := 1000) (d := 40) (by kernel_rfl)
def coT (kind : Int) (i : Nat) : List AV := .p (.int .i64 kind) :: .any :: .any :: .p .nilSlice :: .any :: .any :: .any :: .any :: .any :: .p tabPV :: .p (.int .i64 40) :: .p (.int .i64 i) :: List.replicate 27 .any
def coU (_ : Unit) : List AV := .any :: .any :: .any :: .any :: .any :: .any :: .p .nilSlice :: .any :: .any :: .any :: .any :: .any :: .any :: .any :: .any :: .any :: .any :: .any :: .any :: .any :: .any :: .any :: .any :: .any :: .any :: .any :: .any :: .p (.int .i64 0) :: .p (.int .i64 0) :: List.replicate 10 .any
theorem codes_out (kind : Int) (h : kind < 1 ∨ 25 < kind) : Pure Tryd.prog G1 16 [.int .i64 kind] .nilSlice := by
  refine pure_of_ev k16 ?_
  refine call_pure table_ctr .nil ?_
  refine loop_rule (coT kind) (fun _ => []) (fun i => i ≤ 40) (fun i => 40 - i) 0 (Nat.zero_le _) ⟨⟨rfl, rfl, rfl, rfl, rfl, trivial⟩, rfl, rfl, rfl⟩ (fun _ _ => Nat.le_refl _) (fun i hi => ?_)
  refine ifP (fun hc => ?_) (fun hc => ?_)
  · have hlt : i < 40 := by unfold cmpI at hc; simp at hc; omega
    refine idxP (x := rowAt i) (tabR_get _ hlt) ?_
    refine ifP (fun hk => ?_) (fun hk => ?_)
    · exfalso
      unfold cmpI at hk
      have hk : kindAt i = kind := by simpa [kindAt] using hk
      have := kind_range i hlt
      omega
    · refine ⟨i + 1, by show i + 1 ≤ 40; omega, by show 40 - (i + 1) < 40 - i; omega, ⟨rfl, rfl, rfl, rfl, ?_, trivial⟩, rfl, rfl, rfl⟩
      rw [IntWalk.i64_in ((i : Int) + 1) (by omega)]; rfl
  · refine call_pure sortNil_ctr (.cons (.p _) (.cons (.p _) .nil)) ?_
    refine loop_rule coU (fun _ => []) (fun _ => True) (fun _ => 0) () trivial ⟨⟨rfl, rfl, rfl, trivial⟩, rfl, rfl, rfl⟩ (fun _ _ => Nat.le_refl _) (fun i hi => ?_)
    refine ifF (by unfold cmpI; decide) ?_
    exact frz_p rfl
end
end Go.Av
