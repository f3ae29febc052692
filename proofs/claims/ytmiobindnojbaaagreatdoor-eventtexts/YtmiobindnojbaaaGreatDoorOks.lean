/- The law. Part of a proof of a given statement: for every input the law returns true and the arguments read as before; no condition beyond the given row. -/
import Derived.Test.YtmiobindnojbaaaGreatDoorLiftTy
import Derived.Test.YtmiobindnojbaaaGreatDoorAvBridges
namespace Go.Av
noncomputable section
set_option maxRecDepth 100000
inductive OkV : Q8 → Prop
 | mk (k n : Int) (t : List UInt8) (is : List Q8) (hk : IntKind.i64.min ≤ k ∧ k ≤ IntKind.i64.max) (hn : 0 ≤ n ∧ n < 18446744073709551616) (ht : t.length ≤ maxLen) (hl : is.length ≤ maxLen) (hi : ∀ v ∈ is, OkV v) : OkV ⟨k, n, t, is⟩
theorem OkV.kind {v : Q8} (h : OkV v) : IntKind.i64.min ≤ v.Kind ∧ v.Kind ≤ IntKind.i64.max := by cases h; assumption
theorem OkV.num {v : Q8} (h : OkV v) : 0 ≤ v.N' ∧ v.N' < 18446744073709551616 := by cases h; assumption
theorem OkV.txt {v : Q8} (h : OkV v) : v.Text.length ≤ maxLen := by cases h; assumption
theorem OkV.len {v : Q8} (h : OkV v) : v.Items.length ≤ maxLen := by cases h; assumption
theorem OkV.items {v : Q8} (h : OkV v) : ∀ x ∈ v.Items, OkV x := by cases h; assumption
theorem Qfj (rows : List (List PV)) (h : ∀ r ∈ rows, ∃ v : Q8, r = v.cells ∧ OkV v) : ∃ l : List Q8, rows = Q8.rows l ∧ ∀ v ∈ l, OkV v := by
 induction rows with
 | nil => exact ⟨[], by simp [Q8.rows], fun v hv => by cases hv⟩
 | cons r rows ih =>
  obtain ⟨v, rfl, hv⟩ := h r (.head _)
  obtain ⟨l, rfl, hl⟩ := ih (fun r hr => h r (.tail _ hr))
  refine ⟨v :: l, by simp only [Q8.rows, Q8.cells_eq], fun u hu => ?_⟩
  rcases List.mem_cons.1 hu with rfl | hu
  ·exact hv
  ·exact hl u hu
theorem Q8y (l : List Q8) : (Q8.rows l).length = l.length := by rw [Q8.rows_eq, Qo]
end
end Go.Av
