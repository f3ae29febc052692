/- The law. Part of the proof of the given statement AmqprimCodes: for every input the law returns true and the arguments read as before; no condition beyond the given row. -/
import Derived.Test.YtgalebkdefaonaaDoorLawB
namespace Go.Av
noncomputable section
open Go.Proofs
set_option maxRecDepth 100000
theorem codes_len_all : ((List.range 26).all fun k => decide ((codesF k).length < 4096)) = true := by decide +kernel
theorem codes_len (k : Int) : (codesF k).length < 4096 := by
  by_cases h : k < 1 ∨ 25 < k
  · simp [codesF_out k h]
  · have := List.all_eq_true.1 codes_len_all k.toNat (by simp; omega)
    rw [show ((k.toNat : Nat) : Int) = k by omega] at this
    simpa using this
theorem ofT_out (n : Int) (h : ofB n = false) : (ofT n).1 = 0 ∧ (ofT n).2.1 = 0 ∧ (ofT n).2.2.1 = 0 ∧ (ofT n).2.2.2.1 = false ∧ (ofT n).2.2.2.2 = false := by
  unfold ofT; rw [if_neg (by rw [h]; simp)]; exact ⟨rfl, rfl, rfl, rfl, rfl⟩
theorem ofT_code (n : Int) (h : ofB n = true) : (ofT n).1 = n := by
  have h1 : bsI n < 40 ∧ codeAt (bsI n) = n := by simpa [ofB] using h
  unfold ofT; rw [if_pos h]; exact h1.2
theorem law_codes (kind code : Int) : Pure Tryd.prog G1 4 [.int .i64 kind, .int .i64 code] (.bool true) := by
  have hof := of_ctr2 code
  cases hl : codesF kind with
  | nil =>
    have hco := codes_ctr kind
    rw [codesPV, hl] at hco
    refine law_nil kind code _ _ _ _ _ _ hof hco (fun hB e => ?_) (fun hB => ofT_out code hB)
    have := count_one code hB
    rw [e, hl] at this
    cases this
  | cons c0 l0 =>
    have hco : Pure Tryd.prog G1 16 [.int .i64 kind] (.slice 1 ((codesF kind).map fun c => [.int .i64 c])) := by
      have h := codes_ctr kind
      rw [codesPV, hl] at h
      rw [hl]; exact h
    refine law_cons kind code (codesF kind) (fun x => (ofT x).2.2.1) _ _ _ _ _ _ hof hco (codes_len kind) (fun x hx => ?_) (fun i x y hx hy => code_widths kind i x y hx hy) (fun hB hk => ?_) (fun h => ?_) (fun hB => ofT_code code hB) (fun hB => ofT_out code hB)
    · obtain ⟨h1, h2, h3⟩ := code_in kind x hx
      refine ⟨(ofT x).2.2.2.1, (ofT x).2.2.2.2, ?_⟩
      have h := of_ctr2 x
      rw [h1] at h
      unfold ofR at h
      rw [h2, h3] at h
      exact h
    · have := count_one code hB
      rwa [hk] at this
    · rw [List.count_eq_zero]
      intro hm
      obtain ⟨h1, h2, h3⟩ := code_in kind code hm
      exact h ⟨h1, h3⟩
end
end Go.Av
