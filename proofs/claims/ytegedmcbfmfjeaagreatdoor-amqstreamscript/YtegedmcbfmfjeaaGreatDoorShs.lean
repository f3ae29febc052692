/- The law. Part of a proof of a given statement: for every input the law returns true and the arguments read as before; no condition beyond the given row. -/
import Derived.Test.YtegedmcbfmfjeaaGreatDoorSeat1
import Derived.Test.YtegedmcbfmfjeaaGreatDoorOks
namespace Go.Av
noncomputable section
open Go.Proofs
set_option maxRecDepth 100000
theorem Qpk : Tryz.prog.cellsOf 3 = 1 := by kernel_rfl
theorem Qmu {P : Program} {t : TypeId} {k : IntKind} {x : PV} (hu : P.underlying t = some (.int k)) (h : Sh P t [x]) : ∃ n, x = .int k n ∧ k.min ≤ n ∧ n ≤ k.max :=
 Qo1 hu (by unfold Q57; rw [hu]; exact h)
end
end Go.Av
namespace Go.Av
noncomputable section
open Go.Proofs
set_option maxRecDepth 100000
theorem Qox : Tryz.prog.cellsOf 26 = 2 := by kernel_rfl
theorem Qho {P : Program} {t : TypeId} {fs : Array Field} {cells : List PV} (hu : P.underlying t = some (.struct fs)) (h : Sh P t cells) : cells.length = P.cellsOf t ∧ ∀ f ∈ fs.toList, Sh P f.type ((cells.drop f.offset).take (P.cellsOf f.type)) := by
 induction h with
 | struct t fs' cells h hn hf => rw [hu] at h; cases h; exact ⟨hn, hf⟩
 | bool t h b => rw [hu] at h; cases h
 | int t k n h h1 h2 => rw [hu] at h; cases h
 | str t s h hl => rw [hu] at h; cases h
 | slice t e rows h hl hr hs => rw [hu] at h; cases h
 | array t e n cells h hn hf => rw [hu] at h; cases h
theorem shL {ps : List PV} (h : Sh Tryz.prog 26 ps) : ∃ l : Qe, ps = l.cells ∧ OkL l := by
 obtain ⟨hn, hf⟩ := Qho Tryz.underlying26 h
 rw [Qox] at hn
 match ps, hn with
 | [a, b], _ =>
  have f0 := hf _ (.head _)
  have f1 := hf _ (.tail _ (.head _))
  simp only [Qpk] at f0 f1
  obtain ⟨k, rfl, k1, k2⟩ := Qmu Tryz.underlying3 f0
  obtain ⟨n, rfl, n1, n2⟩ := Qmu Tryz.underlying3 f1
  exact ⟨⟨k, n⟩, rfl, ⟨k1, k2⟩, ⟨n1, n2⟩⟩
theorem Qsk {x : PV} (h : Q57 Tryz.prog 26 x) : ∃ l : Qe, x = .agg l.cells ∧ OkL l := by
 unfold Q57 at h
 rw [Tryz.underlying26] at h
 obtain ⟨ps, hp, rfl⟩ := h
 obtain ⟨v, rfl, hv⟩ := shL hp
 exact ⟨v, rfl, hv⟩
end
end Go.Av
