/- The law. Part of a proof of a given statement: for every input the law returns true and the arguments read as before; no condition beyond the given row. -/
import Derived.Test.YtgalebkdefaonaaDoorSeat1
import Derived.Test.YtgalebkdefaonaaDoorLiftTy
import Derived.Test.YtgalebkdefaonaaDoorAvBridge4
namespace Go.Av
noncomputable section
open Go.Proofs
set_option maxRecDepth 100000
/-- a value that a real one is: its numbers are in their ranges, its texts are texts -/
inductive OkV : SValue → Prop
  | mk (k n : Int) (t : List UInt8) (is : List SValue) (hk : IntKind.i64.min ≤ k ∧ k ≤ IntKind.i64.max) (hn : 0 ≤ n ∧ n < 18446744073709551616) (ht : t.length ≤ maxLen) (hl : is.length ≤ maxLen) (hi : ∀ v ∈ is, OkV v) : OkV ⟨k, n, t, is⟩
theorem OkV.kind {v : SValue} (h : OkV v) : IntKind.i64.min ≤ v.Kind ∧ v.Kind ≤ IntKind.i64.max := by cases h; assumption
theorem OkV.num {v : SValue} (h : OkV v) : 0 ≤ v.N' ∧ v.N' < 18446744073709551616 := by cases h; assumption
theorem OkV.len {v : SValue} (h : OkV v) : v.Items.length ≤ maxLen := by cases h; assumption
theorem OkV.items {v : SValue} (h : OkV v) : ∀ x ∈ v.Items, OkV x := by cases h; assumption
end
end Go.Av
