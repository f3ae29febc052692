/- Part of the proof of FrommqttOwn: for every input the law returns true; no condition. -/
import Derived.Test.YtpmcdjbdijjgkaaGreatDoorAvBridges
import Derived.Test.YtpmcdjbdijjgkaaGreatDoorAvTac
namespace Go.Av
noncomputable section
section
variable {P : Program} {t e : TypeId}
theorem Qlb {x : List PV} (hu : P.underlying t = some (.slice e)) (h : Sh P t x) : ∃ rows, x = [.slice (P.cellsOf e) rows] ∧ rows.length ≤ maxLen ∧ ∀ r ∈ rows, Sh P e r := by
 cases h with
 | bool _ h1 b => rw [hu] at h1; cases h1
 | int _ k' n h1 h2 h3 => rw [hu] at h1; cases h1
 | str _ s h1 hl => rw [hu] at h1; cases h1
 | slice _ e' rows h1 hl hr hs => rw [hu] at h1; cases h1; exact ⟨rows, rfl, hl, hs⟩
 | struct _ fs cells h1 hn hf => rw [hu] at h1; cases h1
 | array _ e n cells h1 hn hf => rw [hu] at h1; cases h1
theorem Q02 {k : IntKind} {x : List PV} (hu : P.underlying t = some (.int k)) (h : Sh P t x) : ∃ n, x = cI k n ∧ k.min ≤ n ∧ n ≤ k.max := by
 cases h with
 | bool _ h1 b => rw [hu] at h1; cases h1
 | int _ k' n h1 h2 h3 => rw [hu] at h1; cases h1; exact ⟨n, rfl, h2, h3⟩
 | str _ s h1 hl => rw [hu] at h1; cases h1
 | slice _ e rows h1 hl hr hs => rw [hu] at h1; cases h1
 | struct _ fs cells h1 hn hf => rw [hu] at h1; cases h1
 | array _ e n cells h1 hn hf => rw [hu] at h1; cases h1
theorem Q0y {x : List PV} (hu : P.underlying t = some .string) (h : Sh P t x) : ∃ s, x = cS s ∧ s.length ≤ maxLen := by
 cases h with
 | bool _ h1 b => rw [hu] at h1; cases h1
 | int _ k' n h1 h2 h3 => rw [hu] at h1; cases h1
 | str _ s h1 hl => exact ⟨s, rfl, hl⟩
 | slice _ e rows h1 hl hr hs => rw [hu] at h1; cases h1
 | struct _ fs cells h1 hn hf => rw [hu] at h1; cases h1
 | array _ e n cells h1 hn hf => rw [hu] at h1; cases h1
theorem Jx {x : List PV} (hu : P.underlying t = some .bool) (h : Sh P t x) : ∃ b, x = cB b := by
 cases h with
 | bool _ h1 b => exact ⟨b, rfl⟩
 | int _ k' n h1 h2 h3 => rw [hu] at h1; cases h1
 | str _ s h1 hl => rw [hu] at h1; cases h1
 | slice _ e rows h1 hl hr hs => rw [hu] at h1; cases h1
 | struct _ fs cells h1 hn hf => rw [hu] at h1; cases h1
 | array _ e n cells h1 hn hf => rw [hu] at h1; cases h1
theorem Qa5 {T : Type} {c : T → List PV} {Ok : T → Prop} : ∀ (rows : List (List PV)), (∀ r ∈ rows, ∃ v : T, r = c v ∧ Ok v) → ∃ l : List T, rows = Q6 c l ∧ ∀ v ∈ l, Ok v
 | [], _ => ⟨[], rfl, fun _ h => by cases h⟩
 | r :: rows, h => by
  obtain ⟨v, rfl, hv⟩ := h r (.head _);obtain ⟨l, rfl, hl⟩ := Qa5 rows fun r hr => h r (.tail _ hr)
  exact ⟨v :: l, rfl, fun u hu => by
   rcases Ml.1 hu with rfl | hu
   ·exact hv
   exact hl u hu⟩
theorem Qna {T : Type} {c : T → List PV} {Ok : T → Prop} {x : List PV} (hu : P.underlying t = some (.slice e)) (h : Sh P t x) (hr : ∀ r, Sh P e r → ∃ v : T, r = c v ∧ Ok v) :
  ∃ l : List T, x = [.slice (P.cellsOf e) (Q6 c l)] ∧ l.length ≤ maxLen ∧ ∀ v ∈ l, Ok v := by
 obtain ⟨rows, rfl, hl, hs⟩ := Qlb hu h;obtain ⟨l, rfl, ho⟩ := Qa5 rows fun r h => hr r (hs r h);exact ⟨l, rfl, by rwa [Qa] at hl, ho⟩
end
end
end Go.Av
