/- The law. Part of a proof of a given statement: for every input the law returns true and the arguments read as before; no condition beyond the given row. -/
import Derived.Test.YtegedmcbfmfjeaaDoorC16of
import Derived.Test.YtegedmcbfmfjeaaDoorAvClosed4
namespace Go.Av
noncomputable section
open Go.Proofs
set_option maxRecDepth 1000000
noncomputable def Qfe (f : Nat) : Option CFunc := (Qet[f]?).join
noncomputable def knT : Know2 := ⟨Qfe, fun _ _ => none, fun _ _ _ => none⟩
def Q53 (P : Program) : Nat → List (Option CFunc) → Bool
 | _, [] => true
 | n, none :: r => Q53 P (n + 1) r
 | n, some c :: r => Qd P n c && Q53 P (n + 1) r
theorem Jl {P : Program} : ∀ (l : List (Option CFunc)) (n : Nat), Q53 P n l = true → ∀ i c, l[i]? = some (some c) → Qd P (n + i) c = true
 | [], n, h, i, c, hi => by simp at hi
 | none :: r, n, h, i, c, hi => by
  cases i with
  | zero => simp at hi
  | succ i => have := Jl r (n + 1) h i c (by simpa using hi); rwa [show n + (i + 1) = n + 1 + i by omega]
 | some d :: r, n, h, i, c, hi => by
  simp only [Q53, Bool.and_eq_true] at h
  cases i with
  | zero => simp at hi; subst hi; exact h.1
  | succ i => have := Jl r (n + 1) h.2 i c (by simpa using hi); rwa [show n + (i + 1) = n + 1 + i by omega]
theorem Qgz : Q53 Tryd.prog 0 Qet = true := by kernel_rfl
theorem Qd7 (f : Nat) (cf : CFunc) (h : Qfe f = some cf) : Qd Tryd.prog f cf = true := by
 unfold Qfe at h
 have : Qet[f]? = some (some cf) := by
  cases hc : Qet[f]? with
  | none => rw [hc] at h; cases h
  | some o => rw [hc] at h; simp at h; rw [h]
 simpa using Jl Qet 0 Qgz f cf this
theorem Qe1 : KnowOk2 Tryd.prog G1 knT := ⟨Qd7, fun _ _ _ h => (by cases h), fun _ _ _ _ h => (by cases h)⟩
theorem Qa3 : Yr Tryd.prog G1 63 [] Qcv := Q5k Qe1 (N := 1000) (d := 40) (by kernel_rfl)
end
end Go.Av
