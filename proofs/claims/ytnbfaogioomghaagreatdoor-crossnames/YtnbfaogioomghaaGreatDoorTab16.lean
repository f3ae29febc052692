/- Part of the proof of CrossNames: for every input the law returns true; no condition. -/
import Derived.Test.YtnbfaogioomghaaGreatDoorC16of
import Derived.Test.YtnbfaogioomghaaGreatDoorAvClosed4
namespace Go.Av
noncomputable section
open Go.Proofs
set_option maxRecDepth 1000000
noncomputable def Qih (f : Nat) : Option CFunc := (Qd2[f]?).join
noncomputable def knT : Know2 := ⟨Qih, fun _ _ => none, fun _ _ _ => none⟩
def Q5u (P : Program) : Nat → List (Option CFunc) → Bool
 | _, [] => true
 | n, none :: r => Q5u P (n + 1) r
 | n, some c :: r => Xb P n c && Q5u P (n + 1) r
theorem G9 {P : Program} : ∀ (l : List (Option CFunc)) (n : Nat), Q5u P n l = true → ∀ i c, l[i]? = some (some c) → Xb P (n + i) c = true
 | [], n, h, i, c, hi => by simp at hi
 | none :: r, n, h, i, c, hi => by
  cases i with
  | zero => simp at hi
  | succ i => have := G9 r (n + 1) h i c (by simpa using hi); rwa [show n + (i + 1) = n + 1 + i by omega]
 | some d :: r, n, h, i, c, hi => by
  simp only [Q5u, Lb] at h
  cases i with
  | zero => simp at hi; subst hi; exact h.1
  | succ i => have := G9 r (n + 1) h.2 i c (by simpa using hi); rwa [show n + (i + 1) = n + 1 + i by omega]
theorem Qwc : Q5u Tryz.prog 0 Qd2 = true := by kernel_rfl
theorem Qcb (f : Nat) (cf : CFunc) (h : Qih f = some cf) : Xb Tryz.prog f cf = true := by
 unfold Qih at h
 have : Qd2[f]? = some (some cf) := by
  cases hc : Qd2[f]? with
  | none => rw [hc] at h; cases h
  | some o => rw [hc] at h; simp at h; rw [h]
 simpa using G9 Qd2 0 Qwc f cf this
theorem Qht : KnowOk2 Tryz.prog G1 knT := ⟨Qcb, fun _ _ _ h => (by cases h), fun _ _ _ _ h => (by cases h)⟩
theorem Q2r : Pure Tryz.prog G1 163 [] Qbq := Qc Qht (N := 1000) (d := 40) (by kernel_rfl)
def Qep : Nat → List PV → Option PV
 | 163, [] => some Qbq
 | _, _ => none
noncomputable def Qn8 : Know2 := ⟨Qih, Qep, fun _ _ _ => none⟩
theorem Z2 : KnowOk2 Tryz.prog G1 Qn8 := by
 refine ⟨Qcb, fun f args r h => ?_, fun _ _ _ _ h => (by cases h)⟩;simp only [Qn8] at h;unfold Qep at h;split at h
 ·cases h; exact Q2r
 cases h
end
end Go.Av
