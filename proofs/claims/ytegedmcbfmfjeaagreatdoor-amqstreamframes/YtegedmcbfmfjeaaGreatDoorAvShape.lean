/- An abstract machine for the modelled code, and what its runs say of real calls. Part of a proof of a given statement: for every input the law returns true and the arguments read as before; no condition beyond the given row. -/
import Derived.Test.YtegedmcbfmfjeaaGreatDoorAvBridges
import Derived.Test.YtegedmcbfmfjeaaGreatDoorAvLift
namespace Go.Av
noncomputable section
section
variable {P : Program} {t e : TypeId}
theorem Qpv {x : List PV} (hu : P.underlying t = some (.slice e)) (h : Sh P t x) : ∃ rows, x = [.slice (P.cellsOf e) rows] ∧ rows.length ≤ maxLen ∧ ∀ r ∈ rows, Sh P e r := by
 cases h with
 | bool _ h1 b => rw [hu] at h1; cases h1
 | int _ k' n h1 h2 h3 => rw [hu] at h1; cases h1
 | str _ s h1 hl => rw [hu] at h1; cases h1
 | slice _ e' rows h1 hl hr hs => rw [hu] at h1; cases h1; exact ⟨rows, rfl, hl, hs⟩
 | struct _ fs cells h1 hn hf => rw [hu] at h1; cases h1
 | array _ e n cells h1 hn hf => rw [hu] at h1; cases h1
theorem Qrg {k : IntKind} {x : List PV} (hu : P.underlying t = some (.int k)) (h : Sh P t x) : ∃ n, x = cI k n ∧ k.min ≤ n ∧ n ≤ k.max := by
 cases h with
 | bool _ h1 b => rw [hu] at h1; cases h1
 | int _ k' n h1 h2 h3 => rw [hu] at h1; cases h1; exact ⟨n, rfl, h2, h3⟩
 | str _ s h1 hl => rw [hu] at h1; cases h1
 | slice _ e rows h1 hl hr hs => rw [hu] at h1; cases h1
 | struct _ fs cells h1 hn hf => rw [hu] at h1; cases h1
 | array _ e n cells h1 hn hf => rw [hu] at h1; cases h1
theorem Qbm {T : Type} {c : T → List PV} {Ok : T → Prop} : ∀ (rows : List (List PV)), (∀ r ∈ rows, ∃ v : T, r = c v ∧ Ok v) → ∃ l : List T, rows = Qi c l ∧ ∀ v ∈ l, Ok v
 | [], _ => ⟨[], rfl, fun _ h => by cases h⟩
 | r :: rows, h => by
  obtain ⟨v, rfl, hv⟩ := h r (.head _)
  obtain ⟨l, rfl, hl⟩ := Qbm rows fun r hr => h r (.tail _ hr)
  exact ⟨v :: l, rfl, fun u hu => by
   rcases List.mem_cons.1 hu with rfl | hu
   ·exact hv
   ·exact hl u hu⟩
theorem Qsd {T : Type} {c : T → List PV} {Ok : T → Prop} {x : List PV} (hu : P.underlying t = some (.slice e)) (h : Sh P t x) (hr : ∀ r, Sh P e r → ∃ v : T, r = c v ∧ Ok v) :
  ∃ l : List T, x = [.slice (P.cellsOf e) (Qi c l)] ∧ l.length ≤ maxLen ∧ ∀ v ∈ l, Ok v := by
 obtain ⟨rows, rfl, hl, hs⟩ := Qpv hu h
 obtain ⟨l, rfl, ho⟩ := Qbm rows fun r h => hr r (hs r h)
 exact ⟨l, rfl, by rwa [Xr] at hl, ho⟩
theorem Qiy {T : Type} {c : T → List PV} {Ok : T → Prop} {x : PV} (hu : P.underlying t = some (.slice e)) (h : Q6b P t x) (hr : ∀ r, Sh P e r → ∃ v : T, r = c v ∧ Ok v) :
  ∃ l : List T, x = .slice (P.cellsOf e) (Qi c l) ∧ l.length ≤ maxLen ∧ ∀ v ∈ l, Ok v := by
 unfold Q6b at h
 rw [hu] at h
 obtain ⟨l, hx, h1, h2⟩ := Qsd hu h hr
 exact ⟨l, by simpa using hx, h1, h2⟩
end
end
end Go.Av
