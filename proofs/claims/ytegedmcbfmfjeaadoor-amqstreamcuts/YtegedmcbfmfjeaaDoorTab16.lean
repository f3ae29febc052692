/- The law. Part of a proof of a given statement: for every input the law returns true and the arguments read as before; no condition beyond the given row. -/
import Derived.Test.YtegedmcbfmfjeaaDoorC16of
import Derived.Test.YtegedmcbfmfjeaaDoorAvClosed4
namespace Go.Av
noncomputable section
open Go.Proofs
set_option maxRecDepth 1000000
noncomputable def Qll (f : Nat) : Option CFunc := (Qkr[f]?).join
noncomputable def knT : Know2 := ⟨Qll, fun _ _ => none, fun _ _ _ => none⟩
def Q8q (P : Program) : Nat → List (Option CFunc) → Bool
 | _, [] => true
 | n, none :: r => Q8q P (n + 1) r
 | n, some c :: r => Qh P n c && Q8q P (n + 1) r
theorem Q0n {P : Program} : ∀ (l : List (Option CFunc)) (n : Nat), Q8q P n l = true → ∀ i c, l[i]? = some (some c) → Qh P (n + i) c = true
 | [], n, h, i, c, hi => by simp at hi
 | none :: r, n, h, i, c, hi => by
  cases i with
  | zero => simp at hi
  | succ i => have := Q0n r (n + 1) h i c (by simpa using hi); rwa [show n + (i + 1) = n + 1 + i by omega]
 | some d :: r, n, h, i, c, hi => by
  simp only [Q8q, Bool.and_eq_true] at h
  cases i with
  | zero => simp at hi; subst hi; exact h.1
  | succ i => have := Q0n r (n + 1) h.2 i c (by simpa using hi); rwa [show n + (i + 1) = n + 1 + i by omega]
theorem Qnc : Q8q Tryd.prog 0 Qkr = true := by kernel_rfl
theorem Qjt (f : Nat) (cf : CFunc) (h : Qll f = some cf) : Qh Tryd.prog f cf = true := by
 unfold Qll at h
 have : Qkr[f]? = some (some cf) := by
  cases hc : Qkr[f]? with
  | none => rw [hc] at h; cases h
  | some o => rw [hc] at h; simp at h; rw [h]
 simpa using Q0n Qkr 0 Qnc f cf this
theorem Qkk : KnowOk2 Tryd.prog G1 knT := ⟨Qjt, fun _ _ _ h => (by cases h), fun _ _ _ _ h => (by cases h)⟩
theorem Qdb : Xp Tryd.prog G1 63 [] Qiq := Q8t Qkk (N := 1000) (d := 40) (by kernel_rfl)
end
end Go.Av
