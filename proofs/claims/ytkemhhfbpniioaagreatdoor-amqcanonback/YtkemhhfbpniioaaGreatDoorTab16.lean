/- The law. Part of a proof of a given statement: for every input the law returns true and the arguments read as before; no condition beyond the given row. -/
import Derived.Test.YtkemhhfbpniioaaGreatDoorC16of
import Derived.Test.YtkemhhfbpniioaaGreatDoorAvClosed4
namespace Go.Av
noncomputable section
open Go.Proofs
set_option maxRecDepth 1000000
def Qr6 (f : Nat) : Option CFunc := (Qqd[f]?).join
def knT : Know2 := ⟨Qr6, fun _ _ => none, fun _ _ _ => none⟩
def Qcl (P : Program) : Nat → List (Option CFunc) → Bool
 | _, [] => true
 | n, none :: r => Qcl P (n + 1) r
 | n, some c :: r => Qa P n c && Qcl P (n + 1) r
theorem Q3c {P : Program} : ∀ (l : List (Option CFunc)) (n : Nat), Qcl P n l = true → ∀ i c, l[i]? = some (some c) → Qa P (n + i) c = true
 | [], n, h, i, c, hi => by simp at hi
 | none :: r, n, h, i, c, hi => by
  cases i with
  | zero => simp at hi
  | succ i => have := Q3c r (n + 1) h i c (by simpa using hi); rwa [show n + (i + 1) = n + 1 + i by omega]
 | some d :: r, n, h, i, c, hi => by
  simp only [Qcl, Bool.and_eq_true] at h
  cases i with
  | zero => simp at hi; subst hi; exact h.1
  | succ i => have := Q3c r (n + 1) h.2 i c (by simpa using hi); rwa [show n + (i + 1) = n + 1 + i by omega]
theorem Qu3 : Qcl Tryz.prog 0 Qqd = true := by kernel_rfl
theorem Qjv (f : Nat) (cf : CFunc) (h : Qr6 f = some cf) : Qa Tryz.prog f cf = true := by
 unfold Qr6 at h
 have : Qqd[f]? = some (some cf) := by
  cases hc : Qqd[f]? with
  | none => rw [hc] at h; cases h
  | some o => rw [hc] at h; simp at h; rw [h]
 simpa using Q3c Qqd 0 Qu3 f cf this
theorem Qqw : KnowOk2 Tryz.prog G1 knT := ⟨Qjv, fun _ _ _ h => (by cases h), fun _ _ _ _ h => (by cases h)⟩
theorem Q6t : Zj Tryz.prog G1 127 [] Qhs := Qk Qqw (N := 1000) (d := 40) (by kernel_rfl)
def Qnq : Nat → List PV → Option PV
 | 127, [] => some Qhs
 | _, _ => none
def Qse : Know2 := ⟨Qr6, Qnq, fun _ _ _ => none⟩
theorem Xo : KnowOk2 Tryz.prog G1 Qse := by
 refine ⟨Qjv, fun f args r h => ?_, fun _ _ _ _ h => (by cases h)⟩
 simp only [Qse] at h
 unfold Qnq at h
 split at h
 ·cases h; exact Q6t
 ·cases h
end
end Go.Av
