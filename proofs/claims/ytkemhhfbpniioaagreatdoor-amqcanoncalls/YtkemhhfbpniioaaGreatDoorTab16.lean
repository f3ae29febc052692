/- The law. Part of a proof of a given statement: for every input the law returns true and the arguments read as before; no condition beyond the given row. -/
import Derived.Test.YtkemhhfbpniioaaGreatDoorC16of
import Derived.Test.YtkemhhfbpniioaaGreatDoorAvClosed4
namespace Go.Av
noncomputable section
open Go.Proofs
set_option maxRecDepth 1000000
noncomputable def Qvu (f : Nat) : Option CFunc := (Qvm[f]?).join
noncomputable def knT : Know2 := ⟨Qvu, fun _ _ => none, fun _ _ _ => none⟩
def Qgl (P : Program) : Nat → List (Option CFunc) → Bool
 | _, [] => true
 | n, none :: r => Qgl P (n + 1) r
 | n, some c :: r => Q7 P n c && Qgl P (n + 1) r
theorem Q6x {P : Program} : ∀ (l : List (Option CFunc)) (n : Nat), Qgl P n l = true → ∀ i c, l[i]? = some (some c) → Q7 P (n + i) c = true
 | [], n, h, i, c, hi => by simp at hi
 | none :: r, n, h, i, c, hi => by
  cases i with
  | zero => simp at hi
  | succ i => have := Q6x r (n + 1) h i c (by simpa using hi); rwa [show n + (i + 1) = n + 1 + i by omega]
 | some d :: r, n, h, i, c, hi => by
  simp only [Qgl, Bool.and_eq_true] at h
  cases i with
  | zero => simp at hi; subst hi; exact h.1
  | succ i => have := Q6x r (n + 1) h.2 i c (by simpa using hi); rwa [show n + (i + 1) = n + 1 + i by omega]
theorem Z06 : Qgl Tryz.prog 0 Qvm = true := by kernel_rfl
theorem Qmt (f : Nat) (cf : CFunc) (h : Qvu f = some cf) : Q7 Tryz.prog f cf = true := by
 unfold Qvu at h
 have : Qvm[f]? = some (some cf) := by
  cases hc : Qvm[f]? with
  | none => rw [hc] at h; cases h
  | some o => rw [hc] at h; simp at h; rw [h]
 simpa using Q6x Qvm 0 Z06 f cf this
theorem Qv8 : KnowOk2 Tryz.prog G1 knT := ⟨Qmt, fun _ _ _ h => (by cases h), fun _ _ _ _ h => (by cases h)⟩
theorem Qam : Qz Tryz.prog G1 127 [] Qmo := Qv Qv8 (N := 1000) (d := 40) (by kernel_rfl)
def Qrn : Nat → List PV → Option PV
 | 127, [] => some Qmo
 | _, _ => none
noncomputable def Qws : Know2 := ⟨Qvu, Qrn, fun _ _ _ => none⟩
theorem Vp : KnowOk2 Tryz.prog G1 Qws := by
 refine ⟨Qmt, fun f args r h => ?_, fun _ _ _ _ h => (by cases h)⟩
 simp only [Qws] at h
 unfold Qrn at h
 split at h
 ·cases h; exact Qam
 ·cases h
end
end Go.Av
