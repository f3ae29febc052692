/- The law. Part of a proof of a given statement: for every input the law returns true and the arguments read as before; no condition beyond the given row. -/
import Derived.Test.YtkemhhfbpniioaaGreatDoorC16of
import Derived.Test.YtkemhhfbpniioaaGreatDoorAvClosed4
namespace Go.Av
noncomputable section
open Go.Proofs
set_option maxRecDepth 1000000
noncomputable def Qzz (f : Nat) : Option CFunc := (Qy9[f]?).join
noncomputable def knT : Know2 := ⟨Qzz, fun _ _ => none, fun _ _ _ => none⟩
def Qjh (P : Program) : Nat → List (Option CFunc) → Bool
 | _, [] => true
 | n, none :: r => Qjh P (n + 1) r
 | n, some c :: r => Q7 P n c && Qjh P (n + 1) r
theorem Q94 {P : Program} : ∀ (l : List (Option CFunc)) (n : Nat), Qjh P n l = true → ∀ i c, l[i]? = some (some c) → Q7 P (n + i) c = true
 | [], n, h, i, c, hi => by simp at hi
 | none :: r, n, h, i, c, hi => by
  cases i with
  | zero => simp at hi
  | succ i => have := Q94 r (n + 1) h i c (by simpa using hi); rwa [show n + (i + 1) = n + 1 + i by omega]
 | some d :: r, n, h, i, c, hi => by
  simp only [Qjh, Bool.and_eq_true] at h
  cases i with
  | zero => simp at hi; subst hi; exact h.1
  | succ i => have := Q94 r (n + 1) h.2 i c (by simpa using hi); rwa [show n + (i + 1) = n + 1 + i by omega]
theorem Z3m : Qjh Tryz.prog 0 Qy9 = true := by kernel_rfl
theorem Qs9 (f : Nat) (cf : CFunc) (h : Qzz f = some cf) : Q7 Tryz.prog f cf = true := by
 unfold Qzz at h
 have : Qy9[f]? = some (some cf) := by
  cases hc : Qy9[f]? with
  | none => rw [hc] at h; cases h
  | some o => rw [hc] at h; simp at h; rw [h]
 simpa using Q94 Qy9 0 Z3m f cf this
theorem Qyx : KnowOk2 Tryz.prog G1 knT := ⟨Qs9, fun _ _ _ h => (by cases h), fun _ _ _ _ h => (by cases h)⟩
theorem Qen : Z0 Tryz.prog G1 127 [] Qpk := Qx Qyx (N := 1000) (d := 40) (by kernel_rfl)
def Qva : Nat → List PV → Option PV
 | 127, [] => some Qpk
 | _, _ => none
noncomputable def Z1n : Know2 := ⟨Qzz, Qva, fun _ _ _ => none⟩
theorem U8 : KnowOk2 Tryz.prog G1 Z1n := by
 refine ⟨Qs9, fun f args r h => ?_, fun _ _ _ _ h => (by cases h)⟩
 simp only [Z1n] at h
 unfold Qva at h
 split at h
 ·cases h; exact Qen
 ·cases h
end
end Go.Av
