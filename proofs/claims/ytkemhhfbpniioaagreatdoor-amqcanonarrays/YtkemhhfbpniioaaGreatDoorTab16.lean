/- The law. Part of a proof of a given statement: for every input the law returns true and the arguments read as before; no condition beyond the given row. -/
import Derived.Test.YtkemhhfbpniioaaGreatDoorC16of
import Derived.Test.YtkemhhfbpniioaaGreatDoorAvClosed4
namespace Go.Av
noncomputable section
open Go.Proofs
set_option maxRecDepth 1000000
noncomputable def Qsd (f : Nat) : Option CFunc := (Qs4[f]?).join
noncomputable def knT : Know2 := ⟨Qsd, fun _ _ => none, fun _ _ _ => none⟩
def Qdm (P : Program) : Nat → List (Option CFunc) → Bool
 | _, [] => true
 | n, none :: r => Qdm P (n + 1) r
 | n, some c :: r => Qa P n c && Qdm P (n + 1) r
theorem Q4d {P : Program} : ∀ (l : List (Option CFunc)) (n : Nat), Qdm P n l = true → ∀ i c, l[i]? = some (some c) → Qa P (n + i) c = true
 | [], n, h, i, c, hi => by simp at hi
 | none :: r, n, h, i, c, hi => by
  cases i with
  | zero => simp at hi
  | succ i => have := Q4d r (n + 1) h i c (by simpa using hi); rwa [show n + (i + 1) = n + 1 + i by omega]
 | some d :: r, n, h, i, c, hi => by
  simp only [Qdm, Bool.and_eq_true] at h
  cases i with
  | zero => simp at hi; subst hi; exact h.1
  | succ i => have := Q4d r (n + 1) h.2 i c (by simpa using hi); rwa [show n + (i + 1) = n + 1 + i by omega]
theorem Qw3 : Qdm Tryz.prog 0 Qs4 = true := by kernel_rfl
theorem Qjk (f : Nat) (cf : CFunc) (h : Qsd f = some cf) : Qa Tryz.prog f cf = true := by
 unfold Qsd at h
 have : Qs4[f]? = some (some cf) := by
  cases hc : Qs4[f]? with
  | none => rw [hc] at h; cases h
  | some o => rw [hc] at h; simp at h; rw [h]
 simpa using Q4d Qs4 0 Qw3 f cf this
theorem Qrf : KnowOk2 Tryz.prog G1 knT := ⟨Qjk, fun _ _ _ h => (by cases h), fun _ _ _ _ h => (by cases h)⟩
theorem Q8l : Zp Tryz.prog G1 127 [] Qkk := Qn Qrf (N := 1000) (d := 40) (by kernel_rfl)
def Qox : Nat → List PV → Option PV
 | 127, [] => some Qkk
 | _, _ => none
noncomputable def Qty : Know2 := ⟨Qsd, Qox, fun _ _ _ => none⟩
theorem W5 : KnowOk2 Tryz.prog G1 Qty := by
 refine ⟨Qjk, fun f args r h => ?_, fun _ _ _ _ h => (by cases h)⟩
 simp only [Qty] at h
 unfold Qox at h
 split at h
 ·cases h; exact Q8l
 ·cases h
end
end Go.Av
