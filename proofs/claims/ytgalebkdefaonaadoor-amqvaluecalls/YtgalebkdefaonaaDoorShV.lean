/- The law. Part of a proof of a given statement: for every input the law returns true and the arguments read as before; no condition beyond the given row. -/
import Derived.Test.YtgalebkdefaonaaDoorSeat1
import Derived.Test.YtgalebkdefaonaaDoorLiftTy
import Derived.Test.YtgalebkdefaonaaDoorAvBridge4
namespace Go.Av
noncomputable section
open Go.Proofs
set_option maxRecDepth 100000
inductive OkV : SValue → Prop
  | mk (k n : Int) (t : List UInt8) (is : List SValue) (hk : IntKind.i64.min ≤ k ∧ k ≤ IntKind.i64.max) (hn : 0 ≤ n ∧ n < 18446744073709551616) (ht : t.length ≤ maxLen) (hl : is.length ≤ maxLen) (hi : ∀ v ∈ is, OkV v) : OkV ⟨k, n, t, is⟩
theorem OkV.kind {v : SValue} (h : OkV v) : IntKind.i64.min ≤ v.Kind ∧ v.Kind ≤ IntKind.i64.max := by cases h; assumption
theorem OkV.num {v : SValue} (h : OkV v) : 0 ≤ v.N' ∧ v.N' < 18446744073709551616 := by cases h; assumption
theorem OkV.txt {v : SValue} (h : OkV v) : v.Text.length ≤ maxLen := by cases h; assumption
theorem OkV.len {v : SValue} (h : OkV v) : v.Items.length ≤ maxLen := by cases h; assumption
theorem OkV.items {v : SValue} (h : OkV v) : ∀ x ∈ v.Items, OkV x := by cases h; assumption
theorem rows_all (rows : List (List PV)) (h : ∀ r ∈ rows, ∃ v : SValue, r = v.cells ∧ OkV v) : ∃ l : List SValue, rows = SValue.rows l ∧ ∀ v ∈ l, OkV v := by
  induction rows with
  | nil => exact ⟨[], by simp [SValue.rows], fun v hv => by cases hv⟩
  | cons r rows ih =>
    obtain ⟨v, rfl, hv⟩ := h r (.head _)
    obtain ⟨l, rfl, hl⟩ := ih (fun r hr => h r (.tail _ hr))
    refine ⟨v :: l, by simp only [SValue.rows, SValue.cells_eq], fun u hu => ?_⟩
    rcases List.mem_cons.1 hu with rfl | hu
    · exact hv
    · exact hl u hu
theorem rowsV_length (l : List SValue) : (SValue.rows l).length = l.length := by rw [SValue.rows_eq, rowsC_length]
theorem cells25 : Tryd.prog.cellsOf 25 = 4 := by kernel_rfl
theorem cells3 : Tryd.prog.cellsOf 3 = 1 := by kernel_rfl
theorem cells22 : Tryd.prog.cellsOf 22 = 1 := by kernel_rfl
theorem cells9 : Tryd.prog.cellsOf 9 = 1 := by kernel_rfl
theorem cells23 : Tryd.prog.cellsOf 23 = 1 := by kernel_rfl
theorem sh_int {P : Program} {t : TypeId} {k : IntKind} {x : PV} (hu : P.underlying t = some (.int k)) (h : Sh P t [x]) : ∃ n, x = .int k n ∧ k.min ≤ n ∧ n ≤ k.max :=
  arg_int hu (by unfold ArgIs; rw [hu]; exact h)
theorem sh_str {P : Program} {t : TypeId} {x : PV} (hu : P.underlying t = some .string) (h : Sh P t [x]) : ∃ s, x = .str s ∧ s.length ≤ maxLen :=
  arg_str hu (by unfold ArgIs; rw [hu]; exact h)
theorem shV {t : TypeId} {ps : List PV} (h : Sh Tryd.prog t ps) : (t = 25 → ∃ v : SValue, ps = v.cells ∧ OkV v) ∧ (t = 23 → ∃ l : List SValue, ps = [.slice 4 (SValue.rows l)] ∧ l.length ≤ maxLen ∧ ∀ v ∈ l, OkV v) := by
  induction h with
  | bool t h b => exact ⟨fun e => (by subst e; rw [Tryd.underlying25] at h; cases h), fun e => (by subst e; rw [Tryd.underlying23] at h; cases h)⟩
  | int t k n h h1 h2 => exact ⟨fun e => (by subst e; rw [Tryd.underlying25] at h; cases h), fun e => (by subst e; rw [Tryd.underlying23] at h; cases h)⟩
  | str t s h hl => exact ⟨fun e => (by subst e; rw [Tryd.underlying25] at h; cases h), fun e => (by subst e; rw [Tryd.underlying23] at h; cases h)⟩
  | array t e n cells h hn hf ih => exact ⟨fun e => (by subst e; rw [Tryd.underlying25] at h; cases h), fun e => (by subst e; rw [Tryd.underlying23] at h; cases h)⟩
  | slice t e rows h hl hr hs ih =>
    refine ⟨fun e => (by subst e; rw [Tryd.underlying25] at h; cases h), fun e => ?_⟩
    subst e
    rw [Tryd.underlying23] at h
    cases h
    obtain ⟨l, rfl, hl2⟩ := rows_all rows (fun r hr => (ih r hr).1 rfl)
    rw [cells25]
    exact ⟨l, rfl, by rwa [rowsV_length] at hl, hl2⟩
  | struct t fs cells h hn hf ih =>
    refine ⟨fun e => ?_, fun e => (by subst e; rw [Tryd.underlying23] at h; cases h)⟩
    subst e
    rw [Tryd.underlying25] at h
    cases h
    rw [cells25] at hn
    match cells, hn with
    | [a, b, c, d], _ =>
      have f0 := hf _ (.head _)
      have f1 := hf _ (.tail _ (.head _))
      have f2 := hf _ (.tail _ (.tail _ (.head _)))
      have f3 := (ih _ (.tail _ (.tail _ (.tail _ (.head _))))).2 rfl
      simp only [cells3, cells22, cells9, cells23] at f0 f1 f2 f3
      obtain ⟨k, rfl, k1, k2⟩ := sh_int Tryd.underlying3 f0
      obtain ⟨n, rfl, n1, n2⟩ := sh_int Tryd.underlying22 f1
      obtain ⟨s, rfl, hs⟩ := sh_str Tryd.underlying9 f2
      obtain ⟨l, hd, hl, hl2⟩ := f3
      have hd : d = .slice 4 (SValue.rows l) := by simpa using hd
      subst hd
      refine ⟨⟨k, n, s, l⟩, rfl, .mk k n s l ⟨k1, k2⟩ ⟨n1, ?_⟩ hs hl hl2⟩
      have : IntKind.u64.max = 18446744073709551615 := by decide
      omega
theorem argV {x : PV} (h : ArgIs Tryd.prog 25 x) : ∃ v : SValue, x = .agg v.cells ∧ OkV v := by
  unfold ArgIs at h
  rw [Tryd.underlying25] at h
  obtain ⟨ps, hp, rfl⟩ := h
  obtain ⟨v, rfl, hv⟩ := (shV hp).1 rfl
  exact ⟨v, rfl, hv⟩
end
end Go.Av
