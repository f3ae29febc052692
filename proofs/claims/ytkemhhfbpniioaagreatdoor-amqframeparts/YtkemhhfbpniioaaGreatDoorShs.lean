/- The law. Part of a proof of a given statement: for every input the law returns true and the arguments read as before; no condition beyond the given row. -/
import Derived.Test.YtkemhhfbpniioaaGreatDoorSeat1
import Derived.Test.YtkemhhfbpniioaaGreatDoorOks
namespace Go.Av
noncomputable section
open Go.Proofs
set_option maxRecDepth 100000
theorem Qot : Tryz.prog.cellsOf 26 = 4 := by kernel_rfl
theorem Qoz : Tryz.prog.cellsOf 3 = 1 := by kernel_rfl
theorem Qsp : Tryz.prog.cellsOf 24 = 1 := by kernel_rfl
theorem Qp6 : Tryz.prog.cellsOf 9 = 1 := by kernel_rfl
theorem Qk2 : Tryz.prog.cellsOf 22 = 1 := by kernel_rfl
theorem Qgm {P : Program} {t : TypeId} {k : IntKind} {x : PV} (hu : P.underlying t = some (.int k)) (h : Sh P t [x]) : ∃ n, x = .int k n ∧ k.min ≤ n ∧ n ≤ k.max :=
 Qpw hu (by unfold Q4k; rw [hu]; exact h)
theorem Qoq {P : Program} {t : TypeId} {x : PV} (hu : P.underlying t = some .string) (h : Sh P t [x]) : ∃ s, x = .str s ∧ s.length ≤ maxLen :=
 Qr0 hu (by unfold Q4k; rw [hu]; exact h)
theorem shV {t : TypeId} {ps : List PV} (h : Sh Tryz.prog t ps) : (t = 26 → ∃ v : Q0, ps = v.cells ∧ OkV v) ∧ (t = 22 → ∃ l : List Q0, ps = [.slice 4 (Q0.rows l)] ∧ l.length ≤ maxLen ∧ ∀ v ∈ l, OkV v) := by
 induction h with
 | bool t h b => exact ⟨fun e => (by subst e; rw [Tryz.underlying26] at h; cases h), fun e => (by subst e; rw [Tryz.underlying22] at h; cases h)⟩
 | int t k n h h1 h2 => exact ⟨fun e => (by subst e; rw [Tryz.underlying26] at h; cases h), fun e => (by subst e; rw [Tryz.underlying22] at h; cases h)⟩
 | str t s h hl => exact ⟨fun e => (by subst e; rw [Tryz.underlying26] at h; cases h), fun e => (by subst e; rw [Tryz.underlying22] at h; cases h)⟩
 | array t e n cells h hn hf ih => exact ⟨fun e => (by subst e; rw [Tryz.underlying26] at h; cases h), fun e => (by subst e; rw [Tryz.underlying22] at h; cases h)⟩
 | slice t e rows h hl hr hs ih =>
  refine ⟨fun e => (by subst e; rw [Tryz.underlying26] at h; cases h), fun e => ?_⟩
  subst e
  rw [Tryz.underlying22] at h
  cases h
  obtain ⟨l, rfl, hl2⟩ := Qmx rows (fun r hr => (ih r hr).1 rfl)
  rw [Qot]
  exact ⟨l, rfl, by rwa [Qem] at hl, hl2⟩
 | struct t fs cells h hn hf ih =>
  refine ⟨fun e => ?_, fun e => (by subst e; rw [Tryz.underlying22] at h; cases h)⟩
  subst e
  rw [Tryz.underlying26] at h
  cases h
  rw [Qot] at hn
  match cells, hn with
  | [a, b, c, d], _ =>
   have f0 := hf _ (.head _)
   have f1 := hf _ (.tail _ (.head _))
   have f2 := hf _ (.tail _ (.tail _ (.head _)))
   have f3 := (ih _ (.tail _ (.tail _ (.tail _ (.head _))))).2 rfl
   simp only [Qoz, Qsp, Qp6, Qk2] at f0 f1 f2 f3
   obtain ⟨k, rfl, k1, k2⟩ := Qgm Tryz.underlying3 f0
   obtain ⟨n, rfl, n1, n2⟩ := Qgm Tryz.underlying24 f1
   obtain ⟨s, rfl, hs⟩ := Qoq Tryz.underlying9 f2
   obtain ⟨l, hd, hl, hl2⟩ := f3
   have hd : d = .slice 4 (Q0.rows l) := by simpa using hd
   subst hd
   refine ⟨⟨k, n, s, l⟩, rfl, .mk k n s l ⟨k1, k2⟩ ⟨n1, ?_⟩ hs hl hl2⟩
   have : IntKind.u64.max = 18446744073709551615 := by decide
   omega
theorem Qwb {x : PV} (h : Q4k Tryz.prog 26 x) : ∃ v : Q0, x = .agg v.cells ∧ OkV v := by
 unfold Q4k at h
 rw [Tryz.underlying26] at h
 obtain ⟨ps, hp, rfl⟩ := h
 obtain ⟨v, rfl, hv⟩ := (shV hp).1 rfl
 exact ⟨v, rfl, hv⟩
end
end Go.Av
namespace Go.Av
noncomputable section
open Go.Proofs
set_option maxRecDepth 100000
theorem Qsm : Tryz.prog.cellsOf 42 = 4 := by kernel_rfl
theorem Qkj {P : Program} {t : TypeId} {fs : Array Field} {cells : List PV} (hu : P.underlying t = some (.struct fs)) (h : Sh P t cells) : cells.length = P.cellsOf t ∧ ∀ f ∈ fs.toList, Sh P f.type ((cells.drop f.offset).take (P.cellsOf f.type)) := by
 induction h with
 | struct t fs' cells h hn hf => rw [hu] at h; cases h; exact ⟨hn, hf⟩
 | bool t h b => rw [hu] at h; cases h
 | int t k n h h1 h2 => rw [hu] at h; cases h
 | str t s h hl => rw [hu] at h; cases h
 | slice t e rows h hl hr hs => rw [hu] at h; cases h
 | array t e n cells h hn hf => rw [hu] at h; cases h
theorem shF {ps : List PV} (h : Sh Tryz.prog 42 ps) : ∃ f : Qw, ps = f.cells ∧ OkF f := by
 obtain ⟨hn, hf⟩ := Qkj Tryz.underlying42 h
 rw [Qsm] at hn
 match ps, hn with
 | [a, b, c, d], _ =>
  have f0 := hf _ (.head _)
  have f1 := hf _ (.tail _ (.head _))
  have f2 := hf _ (.tail _ (.tail _ (.head _)))
  have f3 := (shV (hf _ (.tail _ (.tail _ (.tail _ (.head _)))))).2 rfl
  simp only [Qoz, Qp6, Qk2] at f0 f1 f2 f3
  obtain ⟨k, rfl, k1, k2⟩ := Qgm Tryz.underlying3 f0
  obtain ⟨n, rfl, n1, n2⟩ := Qgm Tryz.underlying3 f1
  obtain ⟨s, rfl, hs⟩ := Qoq Tryz.underlying9 f2
  obtain ⟨l, hd, hl, hl2⟩ := f3
  have hd : d = .slice 4 (Q0.rows l) := by simpa using hd
  subst hd
  exact ⟨⟨k, n, s, l⟩, rfl, ⟨k1, k2⟩, ⟨n1, n2⟩, hs, hl, hl2⟩
theorem Qw6 {x : PV} (h : Q4k Tryz.prog 42 x) : ∃ f : Qw, x = .agg f.cells ∧ OkF f := by
 unfold Q4k at h
 rw [Tryz.underlying42] at h
 obtain ⟨ps, hp, rfl⟩ := h
 obtain ⟨v, rfl, hv⟩ := shF hp
 exact ⟨v, rfl, hv⟩
end
end Go.Av
