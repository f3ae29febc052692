/- An abstract machine for the modelled code, and what its runs say of real calls. Part of a proof of a given statement: for every input the law returns true and the arguments read as before; no condition beyond the given row. -/
import Derived.Test.YtgalebkdefaonaaDoorAvBridge3
namespace Go.Av
noncomputable section
section
variable {P : Program}
theorem arg_int {t : TypeId} {k : IntKind} {x : PV} (hu : P.underlying t = some (.int k)) (h : ArgIs P t x) : ∃ n, x = .int k n ∧ k.min ≤ n ∧ n ≤ k.max := by
 unfold ArgIs at h
 rw [hu] at h
 cases h with
 | bool _ h1 b => rw [hu] at h1; cases h1
 | int _ k' n h1 h2 h3 =>
  rw [hu] at h1
  cases h1
  exact ⟨n, rfl, h2, h3⟩
 | str _ s h1 hl => rw [hu] at h1; cases h1
 | slice _ e rows h1 hl hr hs => rw [hu] at h1; cases h1
 | struct _ fs cells h1 hn hf => rw [hu] at h1; cases h1
 | array _ e n cells h1 hn hf => rw [hu] at h1; cases h1
theorem arg_str {t : TypeId} {x : PV} (hu : P.underlying t = some .string) (h : ArgIs P t x) : ∃ s, x = .str s ∧ s.length ≤ maxLen := by
 unfold ArgIs at h
 rw [hu] at h
 cases h with
 | bool _ h1 b => rw [hu] at h1; cases h1
 | int _ k' n h1 h2 h3 => rw [hu] at h1; cases h1
 | str _ s h1 hl => exact ⟨s, rfl, hl⟩
 | slice _ e rows h1 hl hr hs => rw [hu] at h1; cases h1
 | struct _ fs cells h1 hn hf => rw [hu] at h1; cases h1
 | array _ e n cells h1 hn hf => rw [hu] at h1; cases h1
end
end
end Go.Av
