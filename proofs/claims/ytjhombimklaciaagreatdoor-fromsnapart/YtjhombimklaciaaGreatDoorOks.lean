/- Part of the proof of FromsnApart: for every input the law returns true; no condition. -/
import Derived.Test.YtjhombimklaciaaGreatDoorLiftTy
import Derived.Test.YtjhombimklaciaaGreatDoorAvBridges
namespace Go.Av
noncomputable section
set_option maxRecDepth 100000
inductive OkV : Qa → Prop
 | mk (k n : Int) (t : List UInt8) (is : List Qa) (hk : IntKind.i64.min ≤ k ∧ k ≤ IntKind.i64.max) (hn : 0 ≤ n ∧ n < 18446744073709551616) (ht : t.length ≤ maxLen) (hl : is.length ≤ maxLen) (hi : ∀ v ∈ is, OkV v) : OkV ⟨k, n, t, is⟩
theorem OkV.kind {v : Qa} (h : OkV v) : IntKind.i64.min ≤ v.Kind ∧ v.Kind ≤ IntKind.i64.max := by cases h; assumption
theorem OkV.txt {v : Qa} (h : OkV v) : v.Text.length ≤ maxLen := by cases h; assumption
theorem OkV.len {v : Qa} (h : OkV v) : v.Items.length ≤ maxLen := by cases h; assumption
theorem OkV.items {v : Qa} (h : OkV v) : ∀ x ∈ v.Items, OkV x := by cases h; assumption
end
end Go.Av
