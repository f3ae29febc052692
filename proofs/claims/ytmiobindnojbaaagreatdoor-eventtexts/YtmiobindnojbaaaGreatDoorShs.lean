/- The law. Part of a proof of a given statement: for every input the law returns true and the arguments read as before; no condition beyond the given row. -/
import Derived.Test.YtmiobindnojbaaaGreatDoorSeat1
import Derived.Test.YtmiobindnojbaaaGreatDoorOks
namespace Go.Av
noncomputable section
open Go.Proofs
set_option maxRecDepth 100000
theorem Qhb : Tryz.prog.cellsOf 76 = 4 := by kernel_rfl
theorem Qkh : Tryz.prog.cellsOf 3 = 1 := by kernel_rfl
theorem Qk3 : Tryz.prog.cellsOf 74 = 1 := by kernel_rfl
theorem Qkm : Tryz.prog.cellsOf 9 = 1 := by kernel_rfl
theorem Qi0 : Tryz.prog.cellsOf 34 = 1 := by kernel_rfl
theorem Qgu {P : Program} {t : TypeId} {k : IntKind} {x : PV} (hu : P.underlying t = some (.int k)) (h : Sh P t [x]) : ∃ n, x = .int k n ∧ k.min ≤ n ∧ n ≤ k.max :=
 Qi1 hu (by unfold Q16; rw [hu]; exact h)
theorem Qk2 {P : Program} {t : TypeId} {x : PV} (hu : P.underlying t = some .string) (h : Sh P t [x]) : ∃ s, x = .str s ∧ s.length ≤ maxLen :=
 Qif hu (by unfold Q16; rw [hu]; exact h)
theorem shV {t : TypeId} {ps : List PV} (h : Sh Tryz.prog t ps) : (t = 76 → ∃ v : Q8, ps = v.cells ∧ OkV v) ∧ (t = 34 → ∃ l : List Q8, ps = [.slice 4 (Q8.rows l)] ∧ l.length ≤ maxLen ∧ ∀ v ∈ l, OkV v) := by
 induction h with
 | bool t h b => exact ⟨fun e => (by subst e; rw [Tryz.underlying76] at h; cases h), fun e => (by subst e; rw [Tryz.underlying34] at h; cases h)⟩
 | int t k n h h1 h2 => exact ⟨fun e => (by subst e; rw [Tryz.underlying76] at h; cases h), fun e => (by subst e; rw [Tryz.underlying34] at h; cases h)⟩
 | str t s h hl => exact ⟨fun e => (by subst e; rw [Tryz.underlying76] at h; cases h), fun e => (by subst e; rw [Tryz.underlying34] at h; cases h)⟩
 | array t e n cells h hn hf ih => exact ⟨fun e => (by subst e; rw [Tryz.underlying76] at h; cases h), fun e => (by subst e; rw [Tryz.underlying34] at h; cases h)⟩
 | slice t e rows h hl hr hs ih =>
  refine ⟨fun e => (by subst e; rw [Tryz.underlying76] at h; cases h), fun e => ?_⟩
  subst e
  rw [Tryz.underlying34] at h
  cases h
  obtain ⟨l, rfl, hl2⟩ := Qfj rows (fun r hr => (ih r hr).1 rfl)
  rw [Qhb]
  exact ⟨l, rfl, by rwa [Q8y] at hl, hl2⟩
 | struct t fs cells h hn hf ih =>
  refine ⟨fun e => ?_, fun e => (by subst e; rw [Tryz.underlying34] at h; cases h)⟩
  subst e
  rw [Tryz.underlying76] at h
  cases h
  rw [Qhb] at hn
  match cells, hn with
  | [a, b, c, d], _ =>
   have f0 := hf _ (.head _)
   have f1 := hf _ (.tail _ (.head _))
   have f2 := hf _ (.tail _ (.tail _ (.head _)))
   have f3 := (ih _ (.tail _ (.tail _ (.tail _ (.head _))))).2 rfl
   simp only [Qkh, Qk3, Qkm, Qi0] at f0 f1 f2 f3
   obtain ⟨k, rfl, k1, k2⟩ := Qgu Tryz.underlying3 f0
   obtain ⟨n, rfl, n1, n2⟩ := Qgu Tryz.underlying74 f1
   obtain ⟨s, rfl, hs⟩ := Qk2 Tryz.underlying9 f2
   obtain ⟨l, hd, hl, hl2⟩ := f3
   have hd : d = .slice 4 (Q8.rows l) := by simpa using hd
   subst hd
   refine ⟨⟨k, n, s, l⟩, rfl, .mk k n s l ⟨k1, k2⟩ ⟨n1, ?_⟩ hs hl hl2⟩
   have : IntKind.u64.max = 18446744073709551615 := by decide
   omega
end
end Go.Av
