/- An abstract machine for the modelled code, and what its runs say of real calls. Part of a proof of a given statement: for every input the law returns true and the arguments read as before; no condition beyond the given row. -/
import Derived.Test.YtgalebkdefaonaaDoorAvBase
namespace Go.Av
noncomputable section
mutual
def eqPV : PV → PV → Bool
 | .bool a, .bool b => a == b
 | .int k n, .int k' n' => decide (k = k') && decide (n = n')
 | .str s, .str t => decide (s = t)
 | .nilPtr, .nilPtr => true
 | .nilSlice, .nilSlice => true
 | .slice e r, .slice e' r' => Nat.beq e e' && eqPVss r r'
 | .nilMap, .nilMap => true
 | .func (.func f) a b, .func (.func g) c d => Nat.beq f g && (eqPVs a c && eqPVs b d)
 | .nilFunc, .nilFunc => true
 | .nilIface, .nilIface => true
 | .agg a, .agg b => eqPVs a b
 | .tuple a, .tuple b => eqPVs a b
 | _, _ => false
def eqPVs : List PV → List PV → Bool
 | [], [] => true
 | a :: r, b :: s => eqPV a b && eqPVs r s
 | _, _ => false
def eqPVss : List (List PV) → List (List PV) → Bool
 | [], [] => true
 | a :: r, b :: s => eqPVs a b && eqPVss r s
 | _, _ => false
end
mutual
theorem eqPV_ok : ∀ (a b : PV), eqPV a b = true → a = b
 | .bool a, b, h => by cases b <;> simp [eqPV] at h; subst h; rfl
 | .int k n, b, h => by cases b <;> simp [eqPV] at h; obtain ⟨rfl, rfl⟩ := h; rfl
 | .str s, b, h => by cases b <;> simp [eqPV] at h; subst h; rfl
 | .nilPtr, b, h => by cases b <;> simp [eqPV] at h; rfl
 | .nilSlice, b, h => by cases b <;> simp [eqPV] at h; rfl
 | .slice e r, b, h => by
  cases b <;> simp [eqPV] at h
  obtain ⟨rfl, h2⟩ := h
  rw [eqPVss_ok r _ h2]
 | .nilMap, b, h => by cases b <;> simp [eqPV] at h; rfl
 | .pmap es, b, h => by cases b <;> simp [eqPV] at h
 | .func fn a c, b, h => by
  cases b <;> cases fn <;> try (simp [eqPV] at h; done)
  rename_i fn' a' c' f
  cases fn' <;> simp [eqPV] at h
  obtain ⟨rfl, h2, h3⟩ := h
  rw [eqPVs_ok a _ h2, eqPVs_ok c _ h3]
 | .nilFunc, b, h => by cases b <;> simp [eqPV] at h; rfl
 | .iface t v, b, h => by cases b <;> simp [eqPV] at h
 | .nilIface, b, h => by cases b <;> simp [eqPV] at h; rfl
 | .agg a, b, h => by
  cases b <;> simp [eqPV] at h
  rw [eqPVs_ok a _ h]
 | .tuple a, b, h => by
  cases b <;> simp [eqPV] at h
  rw [eqPVs_ok a _ h]
theorem eqPVs_ok : ∀ (a b : List PV), eqPVs a b = true → a = b
 | [], b, h => by cases b <;> simp [eqPVs] at h; rfl
 | x :: r, b, h => by
  cases b with
  | nil => simp [eqPVs] at h
  | cons y s =>
   simp only [eqPVs, Bool.and_eq_true] at h
   rw [eqPV_ok x y h.1, eqPVs_ok r s h.2]
theorem eqPVss_ok : ∀ (a b : List (List PV)), eqPVss a b = true → a = b
 | [], b, h => by cases b <;> simp [eqPVss] at h; rfl
 | x :: r, b, h => by
  cases b with
  | nil => simp [eqPVss] at h
  | cons y s =>
   simp only [eqPVss, Bool.and_eq_true] at h
   rw [eqPVs_ok x y h.1, eqPVss_ok r s h.2]
end
mutual
def eqAV : AV → AV → Bool
 | .p a, .p b => eqPV a b
 | .ptr a o, .ptr b p => Nat.beq a b && Nat.beq o p
 | .gptr a o, .gptr b p => Nat.beq a b && Nat.beq o p
 | .rptr a, .rptr b => eqPVs a b
 | .slice e a o l, .slice e' a' o' l' => Nat.beq e e' && (Nat.beq a a' && (Nat.beq o o' && Nat.beq l l'))
 | .map a, .map b => Nat.beq a b
 | .func (.func f) a b, .func (.func g) c d => Nat.beq f g && (eqAVs a c && eqAVs b d)
 | .iface t v, .iface t' v' => Nat.beq t t' && eqAV v v'
 | .agg a, .agg b => eqAVs a b
 | .tuple a, .tuple b => eqAVs a b
 | .any, .any => true
 | _, _ => false
def eqAVs : List AV → List AV → Bool
 | [], [] => true
 | a :: r, b :: s => eqAV a b && eqAVs r s
 | _, _ => false
end
mutual
theorem eqAV_ok : ∀ (a b : AV), eqAV a b = true → a = b
 | .p a, b, h => by cases b <;> simp [eqAV] at h; rw [eqPV_ok _ _ h]
 | .ptr a o, b, h => by cases b <;> simp [eqAV] at h; obtain ⟨rfl, rfl⟩ := h; rfl
 | .gptr a o, b, h => by cases b <;> simp [eqAV] at h; obtain ⟨rfl, rfl⟩ := h; rfl
 | .rptr a, b, h => by cases b <;> simp [eqAV] at h; rw [eqPVs_ok _ _ h]
 | .slice e a o l, b, h => by cases b <;> simp [eqAV] at h; obtain ⟨rfl, rfl, rfl, rfl⟩ := h; rfl
 | .map a, b, h => by cases b <;> simp [eqAV] at h; subst h; rfl
 | .func fn a c, b, h => by
  cases b <;> cases fn <;> try (simp [eqAV] at h; done)
  rename_i fn' a' c' f
  cases fn' <;> simp [eqAV] at h
  obtain ⟨rfl, h2, h3⟩ := h
  rw [eqAVs_ok a _ h2, eqAVs_ok c _ h3]
 | .iface t v, b, h => by
  cases b <;> simp [eqAV] at h
  obtain ⟨h1, h2⟩ := h
  rw [eqAV_ok v _ h2, h1]
 | .agg a, b, h => by
  cases b <;> simp [eqAV] at h
  rw [eqAVs_ok a _ h]
 | .tuple a, b, h => by
  cases b <;> simp [eqAV] at h
  rw [eqAVs_ok a _ h]
 | .any, b, h => by cases b <;> simp [eqAV] at h; rfl
theorem eqAVs_ok : ∀ (a b : List AV), eqAVs a b = true → a = b
 | [], b, h => by cases b <;> simp [eqAVs] at h; rfl
 | x :: r, b, h => by
  cases b with
  | nil => simp [eqAVs] at h
  | cons y s =>
   simp only [eqAVs, Bool.and_eq_true] at h
   rw [eqAV_ok x y h.1, eqAVs_ok r s h.2]
end
def eqObj : AObj → AObj → Bool
 | .cells a, .cells b => eqAVs a b
 | .strIter s p, .strIter t q => decide (s = t) && Nat.beq p q
 | .dead, .dead => true
 | _, _ => false
theorem eqObj_ok (a b : AObj) (h : eqObj a b = true) : a = b := by
 cases a <;> cases b <;> simp [eqObj] at h
 ·rw [eqAVs_ok _ _ h]
 ·obtain ⟨rfl, rfl⟩ := h; rfl
 ·rfl
def eqPre : List AObj → List AObj → Bool
 | [], _ => true
 | o :: r, o' :: r' => eqObj o o' && eqPre r r'
 | _ :: _, [] => false
theorem eqPre_ok : ∀ (m H : List AObj), eqPre m H = true → ∃ rest, H = m ++ rest
 | [], H, _ => ⟨H, rfl⟩
 | o :: r, o' :: r', h => by
  simp only [eqPre, Bool.and_eq_true] at h
  obtain ⟨rest, e⟩ := eqPre_ok r r' h.2
  exact ⟨rest, by rw [eqObj_ok _ _ h.1, e]; rfl⟩
 | _ :: _, [], h => by simp [eqPre] at h
def refsD : Nat → List AObj → AV → List Nat
 | 0, _, _ => []
 | n + 1, H, v => match v with
  | .ptr a _ => a :: refsDo n H (H[a]?)
  | .slice _ a _ _ => a :: refsDo n H (H[a]?)
  | .map a => [a]
  | .func _ a b => a.flatMap (refsD n H) ++ b.flatMap (refsD n H)
  | .iface _ v => refsD n H v
  | .agg cs => cs.flatMap (refsD n H)
  | .tuple cs => cs.flatMap (refsD n H)
  | _ => []
where refsDo (n : Nat) (H : List AObj) : Option AObj → List Nat
 | some (.cells cs) => cs.flatMap (refsD n H)
 | _ => []
end
end Go.Av
