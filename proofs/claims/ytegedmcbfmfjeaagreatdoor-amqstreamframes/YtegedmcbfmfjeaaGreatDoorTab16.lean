/- The law. Part of a proof of a given statement: for every input the law returns true and the arguments read as before; no condition beyond the given row. -/
import Derived.Test.YtegedmcbfmfjeaaGreatDoorC16of
import Derived.Test.YtegedmcbfmfjeaaGreatDoorAvClosed4
namespace Go.Av
noncomputable section
open Go.Proofs
set_option maxRecDepth 1000000
noncomputable def Qvf (f : Nat) : Option CFunc := (Qtp[f]?).join
noncomputable def knT : Know2 := ⟨Qvf, fun _ _ => none, fun _ _ _ => none⟩
def Qfb (P : Program) : Nat → List (Option CFunc) → Bool
 | _, [] => true
 | n, none :: r => Qfb P (n + 1) r
 | n, some c :: r => Qc P n c && Qfb P (n + 1) r
theorem Q5g {P : Program} : ∀ (l : List (Option CFunc)) (n : Nat), Qfb P n l = true → ∀ i c, l[i]? = some (some c) → Qc P (n + i) c = true
 | [], n, h, i, c, hi => by simp at hi
 | none :: r, n, h, i, c, hi => by
  cases i with
  | zero => simp at hi
  | succ i => have := Q5g r (n + 1) h i c (by simpa using hi); rwa [show n + (i + 1) = n + 1 + i by omega]
 | some d :: r, n, h, i, c, hi => by
  simp only [Qfb, Bool.and_eq_true] at h
  cases i with
  | zero => simp at hi; subst hi; exact h.1
  | succ i => have := Q5g r (n + 1) h.2 i c (by simpa using hi); rwa [show n + (i + 1) = n + 1 + i by omega]
theorem Qwu : Qfb Tryz.prog 0 Qtp = true := by kernel_rfl
theorem Qrs (f : Nat) (cf : CFunc) (h : Qvf f = some cf) : Qc Tryz.prog f cf = true := by
 unfold Qvf at h
 have : Qtp[f]? = some (some cf) := by
  cases hc : Qtp[f]? with
  | none => rw [hc] at h; cases h
  | some o => rw [hc] at h; simp at h; rw [h]
 simpa using Q5g Qtp 0 Qwu f cf this
theorem Qth : KnowOk2 Tryz.prog G1 knT := ⟨Qrs, fun _ _ _ h => (by cases h), fun _ _ _ _ h => (by cases h)⟩
theorem Ql2 : X1 Tryz.prog G1 86 [] Qrq := Qgf Qth (N := 1000) (d := 40) (by kernel_rfl)
end
end Go.Av
