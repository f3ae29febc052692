/- The law. Part of a proof of a given statement: for every input the law returns true and the arguments read as before; no condition beyond the given row. -/
import Derived.Test.YtkemhhfbpniioaaGreatDoorC16of
import Derived.Test.YtkemhhfbpniioaaGreatDoorAvClosed4
namespace Go.Av
noncomputable section
open Go.Proofs
set_option maxRecDepth 1000000
noncomputable def Qrq (f : Nat) : Option CFunc := (Qr3[f]?).join
noncomputable def knT : Know2 := ⟨Qrq, fun _ _ => none, fun _ _ _ => none⟩
def Qbz (P : Program) : Nat → List (Option CFunc) → Bool
 | _, [] => true
 | n, none :: r => Qbz P (n + 1) r
 | n, some c :: r => Q7 P n c && Qbz P (n + 1) r
theorem Q39 {P : Program} : ∀ (l : List (Option CFunc)) (n : Nat), Qbz P n l = true → ∀ i c, l[i]? = some (some c) → Q7 P (n + i) c = true
 | [], n, h, i, c, hi => by simp at hi
 | none :: r, n, h, i, c, hi => by
  cases i with
  | zero => simp at hi
  | succ i => have := Q39 r (n + 1) h i c (by simpa using hi); rwa [show n + (i + 1) = n + 1 + i by omega]
 | some d :: r, n, h, i, c, hi => by
  simp only [Qbz, Bool.and_eq_true] at h
  cases i with
  | zero => simp at hi; subst hi; exact h.1
  | succ i => have := Q39 r (n + 1) h.2 i c (by simpa using hi); rwa [show n + (i + 1) = n + 1 + i by omega]
theorem Quk : Qbz Tryz.prog 0 Qr3 = true := by kernel_rfl
theorem Qjc (f : Nat) (cf : CFunc) (h : Qrq f = some cf) : Q7 Tryz.prog f cf = true := by
 unfold Qrq at h
 have : Qr3[f]? = some (some cf) := by
  cases hc : Qr3[f]? with
  | none => rw [hc] at h; cases h
  | some o => rw [hc] at h; simp at h; rw [h]
 simpa using Q39 Qr3 0 Quk f cf this
theorem Qrd : KnowOk2 Tryz.prog G1 knT := ⟨Qjc, fun _ _ _ h => (by cases h), fun _ _ _ _ h => (by cases h)⟩
theorem Q7g : Zs Tryz.prog G1 127 [] Qk7 := Ql Qrd (N := 1000) (d := 40) (by kernel_rfl)
def Qnu : Nat → List PV → Option PV
 | 127, [] => some Qk7
 | _, _ => none
noncomputable def Qtv : Know2 := ⟨Qrq, Qnu, fun _ _ _ => none⟩
theorem Xf : KnowOk2 Tryz.prog G1 Qtv := by
 refine ⟨Qjc, fun f args r h => ?_, fun _ _ _ _ h => (by cases h)⟩
 simp only [Qtv] at h
 unfold Qnu at h
 split at h
 ·cases h; exact Q7g
 ·cases h
end
end Go.Av
