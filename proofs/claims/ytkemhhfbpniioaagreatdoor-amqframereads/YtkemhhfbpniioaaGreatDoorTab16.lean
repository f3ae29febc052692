/- The law. Part of a proof of a given statement: for every input the law returns true and the arguments read as before; no condition beyond the given row. -/
import Derived.Test.YtkemhhfbpniioaaGreatDoorC16of
import Derived.Test.YtkemhhfbpniioaaGreatDoorAvClosed4
namespace Go.Av
noncomputable section
open Go.Proofs
set_option maxRecDepth 1000000
noncomputable def Qtf (f : Nat) : Option CFunc := (Qs6[f]?).join
noncomputable def knT : Know2 := ⟨Qtf, fun _ _ => none, fun _ _ _ => none⟩
def Qf0 (P : Program) : Nat → List (Option CFunc) → Bool
 | _, [] => true
 | n, none :: r => Qf0 P (n + 1) r
 | n, some c :: r => Q8 P n c && Qf0 P (n + 1) r
theorem Q4b {P : Program} : ∀ (l : List (Option CFunc)) (n : Nat), Qf0 P n l = true → ∀ i c, l[i]? = some (some c) → Q8 P (n + i) c = true
 | [], n, h, i, c, hi => by simp at hi
 | none :: r, n, h, i, c, hi => by
  cases i with
  | zero => simp at hi
  | succ i => have := Q4b r (n + 1) h i c (by simpa using hi); rwa [show n + (i + 1) = n + 1 + i by omega]
 | some d :: r, n, h, i, c, hi => by
  simp only [Qf0, Bool.and_eq_true] at h
  cases i with
  | zero => simp at hi; subst hi; exact h.1
  | succ i => have := Q4b r (n + 1) h.2 i c (by simpa using hi); rwa [show n + (i + 1) = n + 1 + i by omega]
theorem Qx7 : Qf0 Tryz.prog 0 Qs6 = true := by kernel_rfl
theorem Qks (f : Nat) (cf : CFunc) (h : Qtf f = some cf) : Q8 Tryz.prog f cf = true := by
 unfold Qtf at h
 have : Qs6[f]? = some (some cf) := by
  cases hc : Qs6[f]? with
  | none => rw [hc] at h; cases h
  | some o => rw [hc] at h; simp at h; rw [h]
 simpa using Q4b Qs6 0 Qx7 f cf this
theorem Qta : KnowOk2 Tryz.prog G1 knT := ⟨Qks, fun _ _ _ h => (by cases h), fun _ _ _ _ h => (by cases h)⟩
theorem Q8p : Zx Tryz.prog G1 127 [] Qmq := Qn Qta (N := 1000) (d := 40) (by kernel_rfl)
def Qpt : Nat → List PV → Option PV
 | 127, [] => some Qmq
 | _, _ => none
noncomputable def Qv3 : Know2 := ⟨Qtf, Qpt, fun _ _ _ => none⟩
theorem Xt : KnowOk2 Tryz.prog G1 Qv3 := by
 refine ⟨Qks, fun f args r h => ?_, fun _ _ _ _ h => (by cases h)⟩
 simp only [Qv3] at h
 unfold Qpt at h
 split at h
 ·cases h; exact Q8p
 ·cases h
end
end Go.Av
