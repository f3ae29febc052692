/- The law. Part of a proof of a given statement: for every input the law returns true and the arguments read as before; no condition beyond the given row. -/
import Derived.Test.YtegedmcbfmfjeaaDoorC16of
import Derived.Test.YtegedmcbfmfjeaaDoorAvClosed4
namespace Go.Av
noncomputable section
open Go.Proofs
set_option maxRecDepth 1000000
def Qpu (f : Nat) : Option CFunc := (Qog[f]?).join
def knT : Know2 := ⟨Qpu, fun _ _ => none, fun _ _ _ => none⟩
def Qc8 (P : Program) : Nat → List (Option CFunc) → Bool
 | _, [] => true
 | n, none :: r => Qc8 P (n + 1) r
 | n, some c :: r => Q8 P n c && Qc8 P (n + 1) r
theorem Q34 {P : Program} : ∀ (l : List (Option CFunc)) (n : Nat), Qc8 P n l = true → ∀ i c, l[i]? = some (some c) → Q8 P (n + i) c = true
 | [], n, h, i, c, hi => by simp at hi
 | none :: r, n, h, i, c, hi => by
  cases i with
  | zero => simp at hi
  | succ i => have := Q34 r (n + 1) h i c (by simpa using hi); rwa [show n + (i + 1) = n + 1 + i by omega]
 | some d :: r, n, h, i, c, hi => by
  simp only [Qc8, Bool.and_eq_true] at h
  cases i with
  | zero => simp at hi; subst hi; exact h.1
  | succ i => have := Q34 r (n + 1) h.2 i c (by simpa using hi); rwa [show n + (i + 1) = n + 1 + i by omega]
theorem Qql : Qc8 Tryd.prog 0 Qog = true := by kernel_rfl
theorem Qni (f : Nat) (cf : CFunc) (h : Qpu f = some cf) : Q8 Tryd.prog f cf = true := by
 unfold Qpu at h
 have : Qog[f]? = some (some cf) := by
  cases hc : Qog[f]? with
  | none => rw [hc] at h; cases h
  | some o => rw [hc] at h; simp at h; rw [h]
 simpa using Q34 Qog 0 Qql f cf this
theorem Qp4 : KnowOk2 Tryd.prog G1 knT := ⟨Qni, fun _ _ _ h => (by cases h), fun _ _ _ _ h => (by cases h)⟩
theorem Qjb : Y9 Tryd.prog G1 63 [] Qnb := Qbh Qp4 (N := 1000) (d := 40) (by kernel_rfl)
end
end Go.Av
