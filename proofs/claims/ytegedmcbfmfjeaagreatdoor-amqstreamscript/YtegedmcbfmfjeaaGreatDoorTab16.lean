/- The law. Part of a proof of a given statement: for every input the law returns true and the arguments read as before; no condition beyond the given row. -/
import Derived.Test.YtegedmcbfmfjeaaGreatDoorC16of
import Derived.Test.YtegedmcbfmfjeaaGreatDoorAvClosed4
namespace Go.Av
noncomputable section
open Go.Proofs
set_option maxRecDepth 1000000
noncomputable def Qqc (f : Nat) : Option CFunc := (Qph[f]?).join
noncomputable def knT : Know2 := ⟨Qqc, fun _ _ => none, fun _ _ _ => none⟩
def Qbg (P : Program) : Nat → List (Option CFunc) → Bool
 | _, [] => true
 | n, none :: r => Qbg P (n + 1) r
 | n, some c :: r => Qf P n c && Qbg P (n + 1) r
theorem Q3h {P : Program} : ∀ (l : List (Option CFunc)) (n : Nat), Qbg P n l = true → ∀ i c, l[i]? = some (some c) → Qf P (n + i) c = true
 | [], n, h, i, c, hi => by simp at hi
 | none :: r, n, h, i, c, hi => by
  cases i with
  | zero => simp at hi
  | succ i => have := Q3h r (n + 1) h i c (by simpa using hi); rwa [show n + (i + 1) = n + 1 + i by omega]
 | some d :: r, n, h, i, c, hi => by
  simp only [Qbg, Bool.and_eq_true] at h
  cases i with
  | zero => simp at hi; subst hi; exact h.1
  | succ i => have := Q3h r (n + 1) h.2 i c (by simpa using hi); rwa [show n + (i + 1) = n + 1 + i by omega]
theorem Qrq : Qbg Tryz.prog 0 Qph = true := by kernel_rfl
theorem Qnx (f : Nat) (cf : CFunc) (h : Qqc f = some cf) : Qf Tryz.prog f cf = true := by
 unfold Qqc at h
 have : Qph[f]? = some (some cf) := by
  cases hc : Qph[f]? with
  | none => rw [hc] at h; cases h
  | some o => rw [hc] at h; simp at h; rw [h]
 simpa using Q3h Qph 0 Qrq f cf this
theorem Qou : KnowOk2 Tryz.prog G1 knT := ⟨Qnx, fun _ _ _ h => (by cases h), fun _ _ _ _ h => (by cases h)⟩
theorem Qjk : Xe Tryz.prog G1 86 [] Qnq := Qc0 Qou (N := 1000) (d := 40) (by kernel_rfl)
end
end Go.Av
