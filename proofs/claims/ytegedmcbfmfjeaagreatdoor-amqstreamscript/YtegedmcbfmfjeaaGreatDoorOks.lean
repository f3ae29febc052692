/- The law. Part of a proof of a given statement: for every input the law returns true and the arguments read as before; no condition beyond the given row. -/
import Derived.Test.YtegedmcbfmfjeaaGreatDoorLiftTy
import Derived.Test.YtegedmcbfmfjeaaGreatDoorAvBridges
namespace Go.Av
noncomputable section
set_option maxRecDepth 100000
inductive OkV : Q0 → Prop
 | mk (k n : Int) (t : List UInt8) (is : List Q0) (hk : IntKind.i64.min ≤ k ∧ k ≤ IntKind.i64.max) (hn : 0 ≤ n ∧ n < 18446744073709551616) (ht : t.length ≤ maxLen) (hl : is.length ≤ maxLen) (hi : ∀ v ∈ is, OkV v) : OkV ⟨k, n, t, is⟩
theorem OkV.kind {v : Q0} (h : OkV v) : IntKind.i64.min ≤ v.Kind ∧ v.Kind ≤ IntKind.i64.max := by cases h; assumption
theorem OkV.num {v : Q0} (h : OkV v) : 0 ≤ v.N' ∧ v.N' < 18446744073709551616 := by cases h; assumption
theorem OkV.len {v : Q0} (h : OkV v) : v.Items.length ≤ maxLen := by cases h; assumption
theorem OkV.items {v : Q0} (h : OkV v) : ∀ x ∈ v.Items, OkV x := by cases h; assumption
end
end Go.Av
namespace Go.Av
noncomputable section
set_option maxRecDepth 100000
structure OkF (f : Q9) : Prop where
 type : IntKind.i64.min ≤ f.Type' ∧ f.Type' ≤ IntKind.i64.max
 chan : IntKind.i64.min ≤ f.Channel ∧ f.Channel ≤ IntKind.i64.max
 ext : f.Ext.length ≤ maxLen
 len : f.Values.length ≤ maxLen
 vals : ∀ v ∈ f.Values, OkV v
structure OkL (l : Qe) : Prop where
 most : IntKind.i64.min ≤ l.MaxPacket ∧ l.MaxPacket ≤ IntKind.i64.max
 deep : IntKind.i64.min ≤ l.MaxDepth ∧ l.MaxDepth ≤ IntKind.i64.max
end
end Go.Av
