/- The law. Part of a proof of a given statement: for every input the law returns true and the arguments read as before; no condition beyond the given row. -/
import Derived.Test.YtkemhhfbpniioaaGreatDoorSeat1
import Derived.Test.YtkemhhfbpniioaaGreatDoorOks
namespace Go.Av
noncomputable section
open Go.Proofs
set_option maxRecDepth 100000
theorem Qrt : Tryz.prog.cellsOf 26 = 4 := by kernel_rfl
theorem Qut : Tryz.prog.cellsOf 3 = 1 := by kernel_rfl
theorem Qv1 : Tryz.prog.cellsOf 24 = 1 := by kernel_rfl
theorem Quq : Tryz.prog.cellsOf 9 = 1 := by kernel_rfl
theorem Qu7 : Tryz.prog.cellsOf 22 = 1 := by kernel_rfl
theorem Qrj {P : Program} {t : TypeId} {k : IntKind} {x : PV} (hu : P.underlying t = some (.int k)) (h : Sh P t [x]) : ∃ n, x = .int k n ∧ k.min ≤ n ∧ n ≤ k.max :=
 Qn3 hu (by unfold Q7z; rw [hu]; exact h)
theorem Qus {P : Program} {t : TypeId} {x : PV} (hu : P.underlying t = some .string) (h : Sh P t [x]) : ∃ s, x = .str s ∧ s.length ≤ maxLen :=
 Qog hu (by unfold Q7z; rw [hu]; exact h)
theorem shV {t : TypeId} {ps : List PV} (h : Sh Tryz.prog t ps) : (t = 26 → ∃ v : Q0, ps = v.cells ∧ OkV v) ∧ (t = 22 → ∃ l : List Q0, ps = [.slice 4 (Q0.rows l)] ∧ l.length ≤ maxLen ∧ ∀ v ∈ l, OkV v) := by
 induction h with
 | bool t h b => exact ⟨fun e => (by subst e; rw [Tryz.underlying26] at h; cases h), fun e => (by subst e; rw [Tryz.underlying22] at h; cases h)⟩
 | int t k n h h1 h2 => exact ⟨fun e => (by subst e; rw [Tryz.underlying26] at h; cases h), fun e => (by subst e; rw [Tryz.underlying22] at h; cases h)⟩
 | str t s h hl => exact ⟨fun e => (by subst e; rw [Tryz.underlying26] at h; cases h), fun e => (by subst e; rw [Tryz.underlying22] at h; cases h)⟩
 | array t e n cells h hn hf ih => exact ⟨fun e => (by subst e; rw [Tryz.underlying26] at h; cases h), fun e => (by subst e; rw [Tryz.underlying22] at h; cases h)⟩
 | slice t e rows h hl hr hs ih =>
  refine ⟨fun e => (by subst e; rw [Tryz.underlying26] at h; cases h), fun e => ?_⟩
  subst e
  rw [Tryz.underlying22] at h
  cases h
  obtain ⟨l, rfl, hl2⟩ := Qql rows (fun r hr => (ih r hr).1 rfl)
  rw [Qrt]
  exact ⟨l, rfl, by rwa [Qh1] at hl, hl2⟩
 | struct t fs cells h hn hf ih =>
  refine ⟨fun e => ?_, fun e => (by subst e; rw [Tryz.underlying22] at h; cases h)⟩
  subst e
  rw [Tryz.underlying26] at h
  cases h
  rw [Qrt] at hn
  match cells, hn with
  | [a, b, c, d], _ =>
   have f0 := hf _ (.head _)
   have f1 := hf _ (.tail _ (.head _))
   have f2 := hf _ (.tail _ (.tail _ (.head _)))
   have f3 := (ih _ (.tail _ (.tail _ (.tail _ (.head _))))).2 rfl
   simp only [Qut, Qv1, Quq, Qu7] at f0 f1 f2 f3
   obtain ⟨k, rfl, k1, k2⟩ := Qrj Tryz.underlying3 f0
   obtain ⟨n, rfl, n1, n2⟩ := Qrj Tryz.underlying24 f1
   obtain ⟨s, rfl, hs⟩ := Qus Tryz.underlying9 f2
   obtain ⟨l, hd, hl, hl2⟩ := f3
   have hd : d = .slice 4 (Q0.rows l) := by simpa using hd
   subst hd
   refine ⟨⟨k, n, s, l⟩, rfl, .mk k n s l ⟨k1, k2⟩ ⟨n1, ?_⟩ hs hl hl2⟩
   have : IntKind.u64.max = 18446744073709551615 := by decide
   omega
theorem Z0p {x : PV} (h : Q7z Tryz.prog 26 x) : ∃ v : Q0, x = .agg v.cells ∧ OkV v := by
 unfold Q7z at h
 rw [Tryz.underlying26] at h
 obtain ⟨ps, hp, rfl⟩ := h
 obtain ⟨v, rfl, hv⟩ := (shV hp).1 rfl
 exact ⟨v, rfl, hv⟩
end
end Go.Av
