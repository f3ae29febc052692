/- The law. Part of a proof of a given statement: for every input the law returns true and the arguments read as before; no condition beyond the given row. -/
import Derived.Test.YtkemhhfbpniioaaGreatDoorAvClosed4
import Derived.Test.YtkemhhfbpniioaaGreatDoorCodeFN
import Derived.Test.YtkemhhfbpniioaaGreatDoorSeatFN
import Derived.KernelRfl
namespace Go.Av
noncomputable section
open Go.Proofs
def tabL : List (Int × Int × Int × Bool × Bool) := [(0, 25, 0, false, true), (64, 1, 0, false, false), (65, 2, 0, false, false), (66, 2, 0, false, false), (67, 5, 0, false, false), (68, 6, 0, false, false), (69, 22, 0, false, true), (80, 3, 1, false, false), (81, 7, 1, false, false), (82, 5, 1, false, false), (83, 6, 1, false, false), (84, 9, 1, false, false), (85, 10, 1, false, false), (86, 2, 1, false, false), (96, 4, 2, false, false), (97, 8, 2, false, false), (112, 5, 4, false, false), (113, 9, 4, false, false), (114, 11, 4, false, false), (115, 16, 4, false, false), (116, 13, 4, false, false), (128, 6, 8, false, false), (129, 10, 8, false, false), (130, 12, 8, false, false), (131, 17, 8, false, false), (132, 14, 8, false, false), (148, 15, 16, false, false), (152, 18, 16, false, false), (160, 19, 1, true, false), (161, 20, 1, true, false), (163, 21, 1, true, false), (176, 19, 4, true, false), (177, 20, 4, true, false), (179, 21, 4, true, false), (192, 22, 1, true, true), (193, 23, 1, true, true), (208, 22, 4, true, true), (209, 23, 4, true, true), (224, 24, 1, true, true), (240, 24, 4, true, true)]
def tabPV : PV := .slice 5 (tabL.map fun (a, b, c, d, e) => [.int .i64 a, .int .i64 b, .int .i64 c, .bool d, .bool e])
def tab1 (f : Nat) : Option CFunc := (ctab[f]?).join
def kn0 : Know2 := ⟨tab1, fun _ _ => none, fun _ _ _ => none⟩
def chkTab (P : Program) : Nat → List (Option CFunc) → Bool
  | _, [] => true
  | n, none :: r => chkTab P (n + 1) r
  | n, some c :: r => chkFunc P n c && chkTab P (n + 1) r
theorem chkTab_spec {P : Program} : ∀ (l : List (Option CFunc)) (n : Nat), chkTab P n l = true → ∀ i c, l[i]? = some (some c) → chkFunc P (n + i) c = true
  | [], n, h, i, c, hi => by simp at hi
  | none :: r, n, h, i, c, hi => by
    cases i with
    | zero => simp at hi
    | succ i => have := chkTab_spec r (n + 1) h i c (by simpa using hi); rwa [show n + (i + 1) = n + 1 + i by omega]
  | some d :: r, n, h, i, c, hi => by
    simp only [chkTab, Bool.and_eq_true] at h
    cases i with
    | zero => simp at hi; subst hi; exact h.1
    | succ i => have := chkTab_spec r (n + 1) h.2 i c (by simpa using hi); rwa [show n + (i + 1) = n + 1 + i by omega]
set_option maxRecDepth 1000000
theorem chk1 : chkTab Tryz.prog 0 ctab = true := by kernel_rfl
theorem tab1_ok (f : Nat) (cf : CFunc) (h : tab1 f = some cf) : chkFunc Tryz.prog f cf = true := by
  unfold tab1 at h
  have : ctab[f]? = some (some cf) := by
    cases hc : ctab[f]? with
    | none => rw [hc] at h; cases h
    | some o => rw [hc] at h; simp at h; rw [h]
  simpa using chkTab_spec ctab 0 chk1 f cf this
theorem kn0_ok : KnowOk2 Tryz.prog G1 kn0 := ⟨tab1_ok, fun _ _ _ h => (by cases h), fun _ _ _ _ h => (by cases h)⟩
theorem table_pure : Pure Tryz.prog G1 127 [] tabPV := pure_closed2 kn0_ok (N := 1000) (d := 40) (by kernel_rfl)
def known1 : Nat → List PV → Option PV
  | 127, [] => some tabPV
  | _, _ => none
def kn1 : Know2 := ⟨tab1, known1, fun _ _ _ => none⟩
theorem kn1_ok : KnowOk2 Tryz.prog G1 kn1 := by
  refine ⟨tab1_ok, fun f args r h => ?_, fun _ _ _ _ h => (by cases h)⟩
  simp only [kn1] at h
  unfold known1 at h
  split at h
  · cases h; exact table_pure
  · cases h
end
end Go.Av
