/- The law. Part of a proof of a given statement: for every input the law returns true and the arguments read as before; no condition beyond the given row. -/
import Derived.Test.YtkemhhfbpniioaaGreatDoorSeat1
import Derived.Test.YtkemhhfbpniioaaGreatDoorOks
namespace Go.Av
noncomputable section
open Go.Proofs
set_option maxRecDepth 100000
theorem Qop : Tryz.prog.cellsOf 26 = 4 := by kernel_rfl
theorem Qrs : Tryz.prog.cellsOf 3 = 1 := by kernel_rfl
theorem Qrw : Tryz.prog.cellsOf 24 = 1 := by kernel_rfl
theorem Qrl : Tryz.prog.cellsOf 9 = 1 := by kernel_rfl
theorem Qqp : Tryz.prog.cellsOf 22 = 1 := by kernel_rfl
theorem Qog {P : Program} {t : TypeId} {k : IntKind} {x : PV} (hu : P.underlying t = some (.int k)) (h : Sh P t [x]) : ∃ n, x = .int k n ∧ k.min ≤ n ∧ n ≤ k.max :=
 Qq3 hu (by unfold Q4y; rw [hu]; exact h)
theorem Qrg {P : Program} {t : TypeId} {x : PV} (hu : P.underlying t = some .string) (h : Sh P t [x]) : ∃ s, x = .str s ∧ s.length ≤ maxLen :=
 Qqe hu (by unfold Q4y; rw [hu]; exact h)
theorem shV {t : TypeId} {ps : List PV} (h : Sh Tryz.prog t ps) : (t = 26 → ∃ v : Q0, ps = v.cells ∧ OkV v) ∧ (t = 22 → ∃ l : List Q0, ps = [.slice 4 (Q0.rows l)] ∧ l.length ≤ maxLen ∧ ∀ v ∈ l, OkV v) := by
 induction h with
 | bool t h b => exact ⟨fun e => (by subst e; rw [Tryz.underlying26] at h; cases h), fun e => (by subst e; rw [Tryz.underlying22] at h; cases h)⟩
 | int t k n h h1 h2 => exact ⟨fun e => (by subst e; rw [Tryz.underlying26] at h; cases h), fun e => (by subst e; rw [Tryz.underlying22] at h; cases h)⟩
 | str t s h hl => exact ⟨fun e => (by subst e; rw [Tryz.underlying26] at h; cases h), fun e => (by subst e; rw [Tryz.underlying22] at h; cases h)⟩
 | array t e n cells h hn hf ih => exact ⟨fun e => (by subst e; rw [Tryz.underlying26] at h; cases h), fun e => (by subst e; rw [Tryz.underlying22] at h; cases h)⟩
 | slice t e rows h hl hr hs ih =>
  refine ⟨fun e => (by subst e; rw [Tryz.underlying26] at h; cases h), fun e => ?_⟩
  subst e
  rw [Tryz.underlying22] at h
  cases h
  obtain ⟨l, rfl, hl2⟩ := Qnn rows (fun r hr => (ih r hr).1 rfl)
  rw [Qop]
  exact ⟨l, rfl, by rwa [Qd3] at hl, hl2⟩
 | struct t fs cells h hn hf ih =>
  refine ⟨fun e => ?_, fun e => (by subst e; rw [Tryz.underlying22] at h; cases h)⟩
  subst e
  rw [Tryz.underlying26] at h
  cases h
  rw [Qop] at hn
  match cells, hn with
  | [a, b, c, d], _ =>
   have f0 := hf _ (.head _)
   have f1 := hf _ (.tail _ (.head _))
   have f2 := hf _ (.tail _ (.tail _ (.head _)))
   have f3 := (ih _ (.tail _ (.tail _ (.tail _ (.head _))))).2 rfl
   simp only [Qrs, Qrw, Qrl, Qqp] at f0 f1 f2 f3
   obtain ⟨k, rfl, k1, k2⟩ := Qog Tryz.underlying3 f0
   obtain ⟨n, rfl, n1, n2⟩ := Qog Tryz.underlying24 f1
   obtain ⟨s, rfl, hs⟩ := Qrg Tryz.underlying9 f2
   obtain ⟨l, hd, hl, hl2⟩ := f3
   have hd : d = .slice 4 (Q0.rows l) := by simpa using hd
   subst hd
   refine ⟨⟨k, n, s, l⟩, rfl, .mk k n s l ⟨k1, k2⟩ ⟨n1, ?_⟩ hs hl hl2⟩
   have : IntKind.u64.max = 18446744073709551615 := by decide
   omega
end
end Go.Av
namespace Go.Av
noncomputable section
open Go.Proofs
set_option maxRecDepth 100000
theorem Qsu {x : PV} (h : Q4y Tryz.prog 22 x) : ∃ l : List Q0, x = .slice 4 (Q0.rows l) ∧ l.length ≤ maxLen ∧ ∀ v ∈ l, OkV v := by
 unfold Q4y at h
 rw [Tryz.underlying22] at h
 obtain ⟨l, hl, h1, h2⟩ := (shV h).2 rfl
 exact ⟨l, by simpa using hl, h1, h2⟩
end
end Go.Av
