/- The law. Part of the proof of the given statement AmqprimCodes: for every input the law returns true and the arguments read as before; no condition beyond the given row. -/
import Derived.Test.YtgalebkdefaonaaDoorCodesAll
namespace Go.Av
noncomputable section
open Go.Proofs
set_option maxRecDepth 100000
attribute [local irreducible] dcallP CallsA LoopA DrawA cmpI
theorem lives16 : Pure Tryd.prog G1 14 [] (.bool true) := pure_closed2 knT1_ok (N := 1000) (d := 40) (by kernel_rfl)
/-- of each kind's constructors: they are some, of that kind, ordered by width; each once -/
def goodK (k : Int) : Bool := (codesF k).all (fun x => ofB x && (ofT x).1 == x && (ofT x).2.1 == k) && ((codesF k).zip (codesF k).tail).all (fun (x, y) => decide ((ofT x).2.2.1 ≤ (ofT y).2.2.1))
theorem goodK_all : ((List.range 26).all fun k => goodK k) = true := by decide +kernel
theorem goodK_any (k : Int) : goodK k = true := by
  by_cases h : k < 1 ∨ 25 < k
  · simp [goodK, codesF_out k h]
  · have := List.all_eq_true.1 goodK_all k.toNat (by simp; omega)
    rwa [show ((k.toNat : Nat) : Int) = k by omega] at this
theorem code_in (k x : Int) (h : x ∈ codesF k) : ofB x = true ∧ (ofT x).1 = x ∧ (ofT x).2.1 = k := by
  have := goodK_any k
  simp only [goodK, Bool.and_eq_true, List.all_eq_true] at this
  have := this.1 x h
  simp only [beq_iff_eq] at this
  exact ⟨this.1.1, this.1.2, this.2⟩
theorem code_widths (k : Int) (i : Nat) (x y : Int) (hx : (codesF k)[i]? = some x) (hy : (codesF k)[i + 1]? = some y) : (ofT x).2.2.1 ≤ (ofT y).2.2.1 := by
  have := goodK_any k
  simp only [goodK, Bool.and_eq_true, List.all_eq_true] at this
  have := this.2 (x, y) (by
    rw [List.mem_iff_getElem?]
    refine ⟨i, ?_⟩
    rw [List.getElem?_zip_eq_some]
    exact ⟨hx, by simpa using hy⟩)
  simpa using this
theorem count_all : ((List.range 40).all fun i => (codesF (kindAt i)).count (codeAt i) == 1) = true := by decide +kernel
theorem count_one (n : Int) (h : ofB n = true) : (codesF (ofT n).2.1).count n = 1 := by
  have h1 : bsI n < 40 ∧ codeAt (bsI n) = n := by simpa [ofB] using h
  have := List.all_eq_true.1 count_all (bsI n) (by simpa using h1.1)
  have e : (ofT n).2.1 = kindAt (bsI n) := by unfold ofT; rw [if_pos h]; rfl
  rw [e]
  simpa [h1.2] using this
end
end Go.Av
