/- The law. Part of a proof of a given statement: for every input the law returns true and the arguments read as before; no condition beyond the given row. -/
import Derived.Test.YtegedmcbfmfjeaaGreatDoorSeat1
import Derived.Test.YtegedmcbfmfjeaaGreatDoorOks
namespace Go.Av
noncomputable section
open Go.Proofs
set_option maxRecDepth 100000
theorem Qqx : Tryz.prog.cellsOf 59 = 4 := by kernel_rfl
theorem Qqs : Tryz.prog.cellsOf 3 = 1 := by kernel_rfl
theorem Qu2 : Tryz.prog.cellsOf 57 = 1 := by kernel_rfl
theorem Qqr : Tryz.prog.cellsOf 9 = 1 := by kernel_rfl
theorem Qkv : Tryz.prog.cellsOf 29 = 1 := by kernel_rfl
theorem Qi7 {P : Program} {t : TypeId} {k : IntKind} {x : PV} (hu : P.underlying t = some (.int k)) (h : Sh P t [x]) : ∃ n, x = .int k n ∧ k.min ≤ n ∧ n ≤ k.max :=
 Qse hu (by unfold Q6b; rw [hu]; exact h)
theorem Qr1 {P : Program} {t : TypeId} {x : PV} (hu : P.underlying t = some .string) (h : Sh P t [x]) : ∃ s, x = .str s ∧ s.length ≤ maxLen :=
 Qsc hu (by unfold Q6b; rw [hu]; exact h)
theorem shV {t : TypeId} {ps : List PV} (h : Sh Tryz.prog t ps) : (t = 59 → ∃ v : Q0, ps = v.cells ∧ OkV v) ∧ (t = 29 → ∃ l : List Q0, ps = [.slice 4 (Q0.rows l)] ∧ l.length ≤ maxLen ∧ ∀ v ∈ l, OkV v) := by
 induction h with
 | bool t h b => exact ⟨fun e => (by subst e; rw [Tryz.underlying59] at h; cases h), fun e => (by subst e; rw [Tryz.underlying29] at h; cases h)⟩
 | int t k n h h1 h2 => exact ⟨fun e => (by subst e; rw [Tryz.underlying59] at h; cases h), fun e => (by subst e; rw [Tryz.underlying29] at h; cases h)⟩
 | str t s h hl => exact ⟨fun e => (by subst e; rw [Tryz.underlying59] at h; cases h), fun e => (by subst e; rw [Tryz.underlying29] at h; cases h)⟩
 | array t e n cells h hn hf ih => exact ⟨fun e => (by subst e; rw [Tryz.underlying59] at h; cases h), fun e => (by subst e; rw [Tryz.underlying29] at h; cases h)⟩
 | slice t e rows h hl hr hs ih =>
  refine ⟨fun e => (by subst e; rw [Tryz.underlying59] at h; cases h), fun e => ?_⟩
  subst e
  rw [Tryz.underlying29] at h
  cases h
  obtain ⟨l, rfl, hl2⟩ := Qou rows (fun r hr => (ih r hr).1 rfl)
  rw [Qqx]
  exact ⟨l, rfl, by rwa [Qeu] at hl, hl2⟩
 | struct t fs cells h hn hf ih =>
  refine ⟨fun e => ?_, fun e => (by subst e; rw [Tryz.underlying29] at h; cases h)⟩
  subst e
  rw [Tryz.underlying59] at h
  cases h
  rw [Qqx] at hn
  match cells, hn with
  | [a, b, c, d], _ =>
   have f0 := hf _ (.head _)
   have f1 := hf _ (.tail _ (.head _))
   have f2 := hf _ (.tail _ (.tail _ (.head _)))
   have f3 := (ih _ (.tail _ (.tail _ (.tail _ (.head _))))).2 rfl
   simp only [Qqs, Qu2, Qqr, Qkv] at f0 f1 f2 f3
   obtain ⟨k, rfl, k1, k2⟩ := Qi7 Tryz.underlying3 f0
   obtain ⟨n, rfl, n1, n2⟩ := Qi7 Tryz.underlying57 f1
   obtain ⟨s, rfl, hs⟩ := Qr1 Tryz.underlying9 f2
   obtain ⟨l, hd, hl, hl2⟩ := f3
   have hd : d = .slice 4 (Q0.rows l) := by simpa using hd
   subst hd
   refine ⟨⟨k, n, s, l⟩, rfl, .mk k n s l ⟨k1, k2⟩ ⟨n1, ?_⟩ hs hl hl2⟩
   have : IntKind.u64.max = 18446744073709551615 := by decide
   omega
end
end Go.Av
namespace Go.Av
noncomputable section
open Go.Proofs
set_option maxRecDepth 100000
theorem Qu1 : Tryz.prog.cellsOf 31 = 4 := by kernel_rfl
theorem Qnf {P : Program} {t : TypeId} {fs : Array Field} {cells : List PV} (hu : P.underlying t = some (.struct fs)) (h : Sh P t cells) : cells.length = P.cellsOf t ∧ ∀ f ∈ fs.toList, Sh P f.type ((cells.drop f.offset).take (P.cellsOf f.type)) := by
 induction h with
 | struct t fs' cells h hn hf => rw [hu] at h; cases h; exact ⟨hn, hf⟩
 | bool t h b => rw [hu] at h; cases h
 | int t k n h h1 h2 => rw [hu] at h; cases h
 | str t s h hl => rw [hu] at h; cases h
 | slice t e rows h hl hr hs => rw [hu] at h; cases h
 | array t e n cells h hn hf => rw [hu] at h; cases h
theorem shF {ps : List PV} (h : Sh Tryz.prog 31 ps) : ∃ f : Q3, ps = f.cells ∧ OkF f := by
 obtain ⟨hn, hf⟩ := Qnf Tryz.underlying31 h
 rw [Qu1] at hn
 match ps, hn with
 | [a, b, c, d], _ =>
  have f0 := hf _ (.head _)
  have f1 := hf _ (.tail _ (.head _))
  have f2 := hf _ (.tail _ (.tail _ (.head _)))
  have f3 := (shV (hf _ (.tail _ (.tail _ (.tail _ (.head _)))))).2 rfl
  simp only [Qqs, Qqr, Qkv] at f0 f1 f2 f3
  obtain ⟨k, rfl, k1, k2⟩ := Qi7 Tryz.underlying3 f0
  obtain ⟨n, rfl, n1, n2⟩ := Qi7 Tryz.underlying3 f1
  obtain ⟨s, rfl, hs⟩ := Qr1 Tryz.underlying9 f2
  obtain ⟨l, hd, hl, hl2⟩ := f3
  have hd : d = .slice 4 (Q0.rows l) := by simpa using hd
  subst hd
  exact ⟨⟨k, n, s, l⟩, rfl, ⟨k1, k2⟩, ⟨n1, n2⟩, hs, hl, hl2⟩
end
end Go.Av
