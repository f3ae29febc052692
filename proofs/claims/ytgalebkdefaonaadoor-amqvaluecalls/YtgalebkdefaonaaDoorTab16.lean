/- The law. Part of a proof of a given statement: for every input the law returns true and the arguments read as before; no condition beyond the given row. -/
import Derived.Test.YtgalebkdefaonaaDoorC16of
import Derived.Test.YtgalebkdefaonaaDoorAvClosed4
namespace Go.Av
noncomputable section
open Go.Proofs
set_option maxRecDepth 1000000
def tabT (f : Nat) : Option CFunc := (ctab[f]?).join
def knT : Know2 := ⟨tabT, fun _ _ => none, fun _ _ _ => none⟩
def chkTab (P : Program) : Nat → List (Option CFunc) → Bool
  | _, [] => true
  | n, none :: r => chkTab P (n + 1) r
  | n, some c :: r => chkFunc P n c && chkTab P (n + 1) r
theorem chkTab_spec {P : Program} : ∀ (l : List (Option CFunc)) (n : Nat), chkTab P n l = true → ∀ i c, l[i]? = some (some c) → chkFunc P (n + i) c = true
  | [], n, h, i, c, hi => by simp at hi
  | none :: r, n, h, i, c, hi => by
    cases i with
    | zero => simp at hi
    | succ i => have := chkTab_spec r (n + 1) h i c (by simpa using hi); rwa [show n + (i + 1) = n + 1 + i by omega]
  | some d :: r, n, h, i, c, hi => by
    simp only [chkTab, Bool.and_eq_true] at h
    cases i with
    | zero => simp at hi; subst hi; exact h.1
    | succ i => have := chkTab_spec r (n + 1) h.2 i c (by simpa using hi); rwa [show n + (i + 1) = n + 1 + i by omega]
theorem chkT : chkTab Tryd.prog 0 ctab = true := by kernel_rfl
theorem tabT_ok (f : Nat) (cf : CFunc) (h : tabT f = some cf) : chkFunc Tryd.prog f cf = true := by
  unfold tabT at h
  have : ctab[f]? = some (some cf) := by
    cases hc : ctab[f]? with
    | none => rw [hc] at h; cases h
    | some o => rw [hc] at h; simp at h; rw [h]
  simpa using chkTab_spec ctab 0 chkT f cf this
theorem knT_ok : KnowOk2 Tryd.prog G1 knT := ⟨tabT_ok, fun _ _ _ h => (by cases h), fun _ _ _ _ h => (by cases h)⟩
theorem table_ctr : Pure Tryd.prog G1 55 [] tabPV := pure_closed2 knT_ok (N := 1000) (d := 40) (by kernel_rfl)
end
end Go.Av
