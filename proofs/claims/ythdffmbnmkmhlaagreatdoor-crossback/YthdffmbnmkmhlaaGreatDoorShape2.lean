/- Part of the proof of CrossBack: for every input the law returns true; no condition. -/
import Derived.Test.YthdffmbnmkmhlaaGreatDoorFactsCrossBack
import Derived.Test.YthdffmbnmkmhlaaGreatDoorSeat1
import Derived.Test.YthdffmbnmkmhlaaGreatDoorOks
namespace Go.Av
noncomputable section
section
variable {P : Program} {t : TypeId}
theorem Q04 {fs : Array Field} {cells : List PV} (hu : P.underlying t = some (.struct fs)) (h : Sh P t cells) : cells.length = P.cellsOf t ∧ ∀ f ∈ fs.toList, Sh P f.type ((cells.drop f.offset).take (P.cellsOf f.type)) := by
 cases h with
 | struct t fs' cells h hn hf => rw [hu] at h; cases h; exact ⟨hn, hf⟩
 | bool t h b => rw [hu] at h; cases h
 | int t k n h h1 h2 => rw [hu] at h; cases h
 | str t s h hl => rw [hu] at h; cases h
 | slice t e rows h hl hr hs => rw [hu] at h; cases h
 | array t e n cells h hn hf => rw [hu] at h; cases h
theorem X1 {fs : Array Field} {cells : List PV} (hu : P.underlying t = some (.struct fs)) (h : Sh P t cells) {f : Field} (hf : f ∈ fs.toList) {n k : Nat} {u : TypeId} (hn : P.cellsOf u = n) (hk : f.offset = k) (ht : f.type = u) : Sh P u ((cells.drop k).take n) := by
 subst hn hk ht; exact (Q04 hu h).2 f hf
theorem Z2 {xs a b : List PV} {k n : Nat} (h : (xs.drop k).take n = a) (r : xs.drop (k + n) = b) : xs.drop k = a ++ b := by
 rw [← h, ← r, ← Nd, Nj]
theorem Q4o {xs : List PV} {k : Nat} (h : xs.length = k) : xs.drop k = [] := List.drop_eq_nil_of_le (by omega)
theorem Qbq {x : PV} {fs : Array Field} {T : Type} {c : T → List PV} {Ok : T → Prop} (hu : P.underlying t = some (.struct fs)) (h : Q7p P t x) (hs : ∀ r, Sh P t r → ∃ v : T, r = c v ∧ Ok v) : ∃ v : T, x = .agg (c v) ∧ Ok v := by
 unfold Q7p at h;rw [hu] at h;obtain ⟨ps, hp, rfl⟩ := h;obtain ⟨v, rfl, hv⟩ := hs ps hp;exact ⟨v, rfl, hv⟩
theorem Q7y {T : Type} {c : T → List PV} {Ok : T → Prop} {x : List PV} {e : TypeId} {n : Nat} (hn : P.cellsOf e = n) (hu : P.underlying t = some (.slice e)) (h : Sh P t x) (hr : ∀ r, Sh P e r → ∃ v : T, r = c v ∧ Ok v) :
  ∃ l : List T, x = [.slice n (Qd c l)] ∧ l.length ≤ maxLen ∧ ∀ v ∈ l, Ok v := by
 subst hn; exact Z1j hu h hr
end
end
end Go.Av
namespace Go.Av
noncomputable section
open Go.Proofs
set_option maxRecDepth 100000
theorem Qz2 : Tryz.prog.cellsOf 67 = 4 := by kernel_rfl
theorem Z2d : Tryz.prog.cellsOf 3 = 1 := by kernel_rfl
theorem Z3u : Tryz.prog.cellsOf 65 = 1 := by kernel_rfl
theorem Z24 : Tryz.prog.cellsOf 9 = 1 := by kernel_rfl
theorem Z0r : Tryz.prog.cellsOf 34 = 1 := by kernel_rfl
theorem Qym {P : Program} {t : TypeId} {k : IntKind} {x : PV} (hu : P.underlying t = some (.int k)) (h : Sh P t [x]) : ∃ n, x = .int k n ∧ k.min ≤ n ∧ n ≤ k.max :=
 Qzt hu (by unfold Q7p; rw [hu]; exact h)
theorem Z25 {P : Program} {t : TypeId} {x : PV} (hu : P.underlying t = some .string) (h : Sh P t [x]) : ∃ s, x = .str s ∧ s.length ≤ maxLen :=
 Z0a hu (by unfold Q7p; rw [hu]; exact h)
theorem shV {t : TypeId} {ps : List PV} (h : Sh Tryz.prog t ps) : (t = 67 → ∃ v : Q0, ps = v.cells ∧ OkV v) ∧ (t = 34 → ∃ l : List Q0, ps = [.slice 4 (Q0.rows l)] ∧ l.length ≤ maxLen ∧ ∀ v ∈ l, OkV v) := by
 induction h with
 | bool t h b => exact ⟨fun e => (by subst e; rw [Tryz.underlying67] at h; cases h), fun e => (by subst e; rw [Tryz.underlying34] at h; cases h)⟩
 | int t k n h h1 h2 => exact ⟨fun e => (by subst e; rw [Tryz.underlying67] at h; cases h), fun e => (by subst e; rw [Tryz.underlying34] at h; cases h)⟩
 | str t s h hl => exact ⟨fun e => (by subst e; rw [Tryz.underlying67] at h; cases h), fun e => (by subst e; rw [Tryz.underlying34] at h; cases h)⟩
 | array t e n cells h hn hf ih => exact ⟨fun e => (by subst e; rw [Tryz.underlying67] at h; cases h), fun e => (by subst e; rw [Tryz.underlying34] at h; cases h)⟩
 | slice t e rows h hl hr hs ih =>
  refine ⟨fun e => (by subst e; rw [Tryz.underlying67] at h; cases h), fun e => ?_⟩;subst e;rw [Tryz.underlying34] at h;cases h;obtain ⟨l, rfl, hl2⟩ := Qvp rows (fun r hr => (ih r hr).1 rfl);rw [Qz2];exact ⟨l, rfl, by rwa [Ql0] at hl, hl2⟩
 | struct t fs cells h hn hf ih =>
  refine ⟨fun e => ?_, fun e => (by subst e; rw [Tryz.underlying34] at h; cases h)⟩;subst e;rw [Tryz.underlying67] at h;cases h;rw [Qz2] at hn
  match cells, hn with
  | [a, b, c, d], _ =>
   have f0 := hf _ (.head _);have f1 := hf _ (.tail _ (.head _));have f2 := hf _ (.tail _ (.tail _ (.head _)));have f3 := (ih _ (.tail _ (.tail _ (.tail _ (.head _))))).2 rfl;simp only [Z2d, Z3u, Z24, Z0r] at f0 f1 f2 f3;obtain ⟨k, rfl, k1, k2⟩ := Qym Tryz.underlying3 f0;obtain ⟨n, rfl, n1, n2⟩ := Qym Tryz.underlying65 f1;obtain ⟨s, rfl, hs⟩ := Z25 Tryz.underlying9 f2;obtain ⟨l, hd, hl, hl2⟩ := f3
   have hd : d = .slice 4 (Q0.rows l) := by simpa using hd
   subst hd;refine ⟨⟨k, n, s, l⟩, rfl, .mk k n s l ⟨k1, k2⟩ ⟨n1, ?_⟩ hs hl hl2⟩
   have : IntKind.u64.max = 18446744073709551615 := by decide
   omega
end
end Go.Av
