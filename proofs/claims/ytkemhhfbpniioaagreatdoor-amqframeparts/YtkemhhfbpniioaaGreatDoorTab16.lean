/- The law. Part of a proof of a given statement: for every input the law returns true and the arguments read as before; no condition beyond the given row. -/
import Derived.Test.YtkemhhfbpniioaaGreatDoorC16of
import Derived.Test.YtkemhhfbpniioaaGreatDoorAvClosed4
namespace Go.Av
noncomputable section
open Go.Proofs
set_option maxRecDepth 1000000
noncomputable def Qsv (f : Nat) : Option CFunc := (Qry[f]?).join
noncomputable def knT : Know2 := ⟨Qsv, fun _ _ => none, fun _ _ _ => none⟩
def Qd8 (P : Program) : Nat → List (Option CFunc) → Bool
 | _, [] => true
 | n, none :: r => Qd8 P (n + 1) r
 | n, some c :: r => Q9 P n c && Qd8 P (n + 1) r
theorem Q4x {P : Program} : ∀ (l : List (Option CFunc)) (n : Nat), Qd8 P n l = true → ∀ i c, l[i]? = some (some c) → Q9 P (n + i) c = true
 | [], n, h, i, c, hi => by simp at hi
 | none :: r, n, h, i, c, hi => by
  cases i with
  | zero => simp at hi
  | succ i => have := Q4x r (n + 1) h i c (by simpa using hi); rwa [show n + (i + 1) = n + 1 + i by omega]
 | some d :: r, n, h, i, c, hi => by
  simp only [Qd8, Bool.and_eq_true] at h
  cases i with
  | zero => simp at hi; subst hi; exact h.1
  | succ i => have := Q4x r (n + 1) h.2 i c (by simpa using hi); rwa [show n + (i + 1) = n + 1 + i by omega]
theorem Qwq : Qd8 Tryz.prog 0 Qry = true := by kernel_rfl
theorem Qks (f : Nat) (cf : CFunc) (h : Qsv f = some cf) : Q9 Tryz.prog f cf = true := by
 unfold Qsv at h
 have : Qry[f]? = some (some cf) := by
  cases hc : Qry[f]? with
  | none => rw [hc] at h; cases h
  | some o => rw [hc] at h; simp at h; rw [h]
 simpa using Q4x Qry 0 Qwq f cf this
theorem Qrx : KnowOk2 Tryz.prog G1 knT := ⟨Qks, fun _ _ _ h => (by cases h), fun _ _ _ _ h => (by cases h)⟩
theorem Q89 : Zo Tryz.prog G1 127 [] Qk4 := Qj Qrx (N := 1000) (d := 40) (by kernel_rfl)
def Qpa : Nat → List PV → Option PV
 | 127, [] => some Qk4
 | _, _ => none
noncomputable def Qv1 : Know2 := ⟨Qsv, Qpa, fun _ _ _ => none⟩
theorem Wj : KnowOk2 Tryz.prog G1 Qv1 := by
 refine ⟨Qks, fun f args r h => ?_, fun _ _ _ _ h => (by cases h)⟩
 simp only [Qv1] at h
 unfold Qpa at h
 split at h
 ·cases h; exact Q89
 ·cases h
end
end Go.Av
