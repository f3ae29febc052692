/- The law. Part of a proof of a given statement: for every input the law returns true and the arguments read as before; no condition beyond the given row. -/
import Derived.Test.YtegedmcbfmfjeaaDoorC16of
import Derived.Test.YtegedmcbfmfjeaaDoorAvClosed4
namespace Go.Av
noncomputable section
open Go.Proofs
set_option maxRecDepth 1000000
noncomputable def Qld (f : Nat) : Option CFunc := (Qj7[f]?).join
noncomputable def knT : Know2 := ⟨Qld, fun _ _ => none, fun _ _ _ => none⟩
def Q7y (P : Program) : Nat → List (Option CFunc) → Bool
 | _, [] => true
 | n, none :: r => Q7y P (n + 1) r
 | n, some c :: r => Qm P n c && Q7y P (n + 1) r
theorem Q00 {P : Program} : ∀ (l : List (Option CFunc)) (n : Nat), Q7y P n l = true → ∀ i c, l[i]? = some (some c) → Qm P (n + i) c = true
 | [], n, h, i, c, hi => by simp at hi
 | none :: r, n, h, i, c, hi => by
  cases i with
  | zero => simp at hi
  | succ i => have := Q00 r (n + 1) h i c (by simpa using hi); rwa [show n + (i + 1) = n + 1 + i by omega]
 | some d :: r, n, h, i, c, hi => by
  simp only [Q7y, Bool.and_eq_true] at h
  cases i with
  | zero => simp at hi; subst hi; exact h.1
  | succ i => have := Q00 r (n + 1) h.2 i c (by simpa using hi); rwa [show n + (i + 1) = n + 1 + i by omega]
theorem Qms : Q7y Tryd.prog 0 Qj7 = true := by kernel_rfl
theorem Qia (f : Nat) (cf : CFunc) (h : Qld f = some cf) : Qm Tryd.prog f cf = true := by
 unfold Qld at h
 have : Qj7[f]? = some (some cf) := by
  cases hc : Qj7[f]? with
  | none => rw [hc] at h; cases h
  | some o => rw [hc] at h; simp at h; rw [h]
 simpa using Q00 Qj7 0 Qms f cf this
theorem Qkc : KnowOk2 Tryd.prog G1 knT := ⟨Qia, fun _ _ _ h => (by cases h), fun _ _ _ _ h => (by cases h)⟩
theorem Qed : Xw Tryd.prog G1 63 [] Qi6 := Q8z Qkc (N := 1000) (d := 40) (by kernel_rfl)
end
end Go.Av
