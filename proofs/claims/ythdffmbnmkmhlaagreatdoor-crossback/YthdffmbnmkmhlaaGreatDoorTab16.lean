/- Part of the proof of CrossBack: for every input the law returns true; no condition. -/
import Derived.Test.YthdffmbnmkmhlaaGreatDoorC16of
import Derived.Test.YthdffmbnmkmhlaaGreatDoorAvClosed4
namespace Go.Av
noncomputable section
open Go.Proofs
set_option maxRecDepth 1000000
noncomputable def Z43 (f : Nat) : Option CFunc := (Qvf[f]?).join
noncomputable def knT : Know2 := ⟨Z43, fun _ _ => none, fun _ _ _ => none⟩
def Qkj (P : Program) : Nat → List (Option CFunc) → Bool
 | _, [] => true
 | n, none :: r => Qkj P (n + 1) r
 | n, some c :: r => Q0i P n c && Qkj P (n + 1) r
theorem Q9c {P : Program} : ∀ (l : List (Option CFunc)) (n : Nat), Qkj P n l = true → ∀ i c, l[i]? = some (some c) → Q0i P (n + i) c = true
 | [], n, h, i, c, hi => by simp at hi
 | none :: r, n, h, i, c, hi => by
  cases i with
  | zero => simp at hi
  | succ i => have := Q9c r (n + 1) h i c (by simpa using hi); rwa [show n + (i + 1) = n + 1 + i by omega]
 | some d :: r, n, h, i, c, hi => by
  simp only [Qkj, Le] at h
  cases i with
  | zero => simp at hi; subst hi; exact h.1
  | succ i => have := Q9c r (n + 1) h.2 i c (by simpa using hi); rwa [show n + (i + 1) = n + 1 + i by omega]
theorem Zmz : Qkj Tryz.prog 0 Qvf = true := by kernel_rfl
theorem Qto (f : Nat) (cf : CFunc) (h : Z43 f = some cf) : Q0i Tryz.prog f cf = true := by
 unfold Z43 at h
 have : Qvf[f]? = some (some cf) := by
  cases hc : Qvf[f]? with
  | none => rw [hc] at h; cases h
  | some o => rw [hc] at h; simp at h; rw [h]
 simpa using Q9c Qvf 0 Zmz f cf this
theorem Z2l : KnowOk2 Tryz.prog G1 knT := ⟨Qto, fun _ _ _ h => (by cases h), fun _ _ _ _ h => (by cases h)⟩
theorem Qdv : Q2j Tryz.prog G1 177 [] Qso := Qm Z2l (N := 1000) (d := 40) (by kernel_rfl)
def Qy3 : Nat → List PV → Option PV
 | 177, [] => some Qso
 | _, _ => none
noncomputable def Z7b : Know2 := ⟨Z43, Qy3, fun _ _ _ => none⟩
theorem Vu : KnowOk2 Tryz.prog G1 Z7b := by
 refine ⟨Qto, fun f args r h => ?_, fun _ _ _ _ h => (by cases h)⟩;simp only [Z7b] at h;unfold Qy3 at h;split at h
 ·cases h; exact Qdv
 cases h
end
end Go.Av
