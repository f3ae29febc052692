/- The law. Part of a proof of a given statement: for every input the law returns true and the arguments read as before; no condition beyond the given row. -/
import Derived.Test.YtkemhhfbpniioaaGreatDoorC16of
import Derived.Test.YtkemhhfbpniioaaGreatDoorAvClosed4
namespace Go.Av
noncomputable section
open Go.Proofs
set_option maxRecDepth 1000000
def Qts (f : Nat) : Option CFunc := (Qtj[f]?).join
def knT : Know2 := ⟨Qts, fun _ _ => none, fun _ _ _ => none⟩
def Qen (P : Program) : Nat → List (Option CFunc) → Bool
 | _, [] => true
 | n, none :: r => Qen P (n + 1) r
 | n, some c :: r => Qc P n c && Qen P (n + 1) r
theorem Q4o {P : Program} : ∀ (l : List (Option CFunc)) (n : Nat), Qen P n l = true → ∀ i c, l[i]? = some (some c) → Qc P (n + i) c = true
 | [], n, h, i, c, hi => by simp at hi
 | none :: r, n, h, i, c, hi => by
  cases i with
  | zero => simp at hi
  | succ i => have := Q4o r (n + 1) h i c (by simpa using hi); rwa [show n + (i + 1) = n + 1 + i by omega]
 | some d :: r, n, h, i, c, hi => by
  simp only [Qen, Bool.and_eq_true] at h
  cases i with
  | zero => simp at hi; subst hi; exact h.1
  | succ i => have := Q4o r (n + 1) h.2 i c (by simpa using hi); rwa [show n + (i + 1) = n + 1 + i by omega]
theorem Qwi : Qen Tryz.prog 0 Qtj = true := by kernel_rfl
theorem Qms (f : Nat) (cf : CFunc) (h : Qts f = some cf) : Qc Tryz.prog f cf = true := by
 unfold Qts at h
 have : Qtj[f]? = some (some cf) := by
  cases hc : Qtj[f]? with
  | none => rw [hc] at h; cases h
  | some o => rw [hc] at h; simp at h; rw [h]
 simpa using Q4o Qtj 0 Qwi f cf this
theorem Qta : KnowOk2 Tryz.prog G1 knT := ⟨Qms, fun _ _ _ h => (by cases h), fun _ _ _ _ h => (by cases h)⟩
theorem Q8s : Zq Tryz.prog G1 127 [] Qlg := Qu Qta (N := 1000) (d := 40) (by kernel_rfl)
def Qq4 : Nat → List PV → Option PV
 | 127, [] => some Qlg
 | _, _ => none
def Qvj : Know2 := ⟨Qts, Qq4, fun _ _ _ => none⟩
theorem Wq : KnowOk2 Tryz.prog G1 Qvj := by
 refine ⟨Qms, fun f args r h => ?_, fun _ _ _ _ h => (by cases h)⟩
 simp only [Qvj] at h
 unfold Qq4 at h
 split at h
 ·cases h; exact Q8s
 ·cases h
end
end Go.Av
