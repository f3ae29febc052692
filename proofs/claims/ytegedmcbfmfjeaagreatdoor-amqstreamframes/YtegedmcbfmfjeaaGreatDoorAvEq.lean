/- An abstract machine for the modelled code, and what its runs say of real calls. Part of a proof of a given statement: for every input the law returns true and the arguments read as before; no condition beyond the given row. -/
import Derived.Test.YtegedmcbfmfjeaaGreatDoorAvBase
namespace Go.Av
noncomputable section
mutual
def Qe8 : PV → PV → Bool
 | .bool a, .bool b => a == b
 | .int k n, .int k' n' => decide (k = k') && decide (n = n')
 | .str s, .str t => decide (s = t)
 | .nilPtr, .nilPtr => true
 | .nilSlice, .nilSlice => true
 | .slice e r, .slice e' r' => Nat.beq e e' && Qc9 r r'
 | .nilMap, .nilMap => true
 | .func (.func f) a b, .func (.func g) c d => Nat.beq f g && (Q9d a c && Q9d b d)
 | .nilFunc, .nilFunc => true
 | .nilIface, .nilIface => true
 | .agg a, .agg b => Q9d a b
 | .tuple a, .tuple b => Q9d a b
 | _, _ => false
def Q9d : List PV → List PV → Bool
 | [], [] => true
 | a :: r, b :: s => Qe8 a b && Q9d r s
 | _, _ => false
def Qc9 : List (List PV) → List (List PV) → Bool
 | [], [] => true
 | a :: r, b :: s => Q9d a b && Qc9 r s
 | _, _ => false
end
mutual
theorem Qku : ∀ (a b : PV), Qe8 a b = true → a = b
 | .bool a, b, h => by cases b <;> simp [Qe8] at h; subst h; rfl
 | .int k n, b, h => by cases b <;> simp [Qe8] at h; obtain ⟨rfl, rfl⟩ := h; rfl
 | .str s, b, h => by cases b <;> simp [Qe8] at h; subst h; rfl
 | .nilPtr, b, h => by cases b <;> simp [Qe8] at h; rfl
 | .nilSlice, b, h => by cases b <;> simp [Qe8] at h; rfl
 | .slice e r, b, h => by
  cases b <;> simp [Qe8] at h
  obtain ⟨rfl, h2⟩ := h
  rw [Qgb r _ h2]
 | .nilMap, b, h => by cases b <;> simp [Qe8] at h; rfl
 | .pmap es, b, h => by cases b <;> simp [Qe8] at h
 | .func fn a c, b, h => by
  cases b <;> cases fn <;> try (simp [Qe8] at h; done)
  rename_i fn' a' c' f
  cases fn' <;> simp [Qe8] at h
  obtain ⟨rfl, h2, h3⟩ := h
  rw [Q30 a _ h2, Q30 c _ h3]
 | .nilFunc, b, h => by cases b <;> simp [Qe8] at h; rfl
 | .iface t v, b, h => by cases b <;> simp [Qe8] at h
 | .nilIface, b, h => by cases b <;> simp [Qe8] at h; rfl
 | .agg a, b, h => by
  cases b <;> simp [Qe8] at h
  rw [Q30 a _ h]
 | .tuple a, b, h => by
  cases b <;> simp [Qe8] at h
  rw [Q30 a _ h]
theorem Q30 : ∀ (a b : List PV), Q9d a b = true → a = b
 | [], b, h => by cases b <;> simp [Q9d] at h; rfl
 | x :: r, b, h => by
  cases b with
  | nil => simp [Q9d] at h
  | cons y s =>
   simp only [Q9d, Bool.and_eq_true] at h
   rw [Qku x y h.1, Q30 r s h.2]
theorem Qgb : ∀ (a b : List (List PV)), Qc9 a b = true → a = b
 | [], b, h => by cases b <;> simp [Qc9] at h; rfl
 | x :: r, b, h => by
  cases b with
  | nil => simp [Qc9] at h
  | cons y s =>
   simp only [Qc9, Bool.and_eq_true] at h
   rw [Q30 x y h.1, Qgb r s h.2]
end
mutual
def Qh4 : AV → AV → Bool
 | .p a, .p b => Qe8 a b
 | .ptr a o, .ptr b p => Nat.beq a b && Nat.beq o p
 | .gptr a o, .gptr b p => Nat.beq a b && Nat.beq o p
 | .rptr a, .rptr b => Q9d a b
 | .slice e a o l, .slice e' a' o' l' => Nat.beq e e' && (Nat.beq a a' && (Nat.beq o o' && Nat.beq l l'))
 | .map a, .map b => Nat.beq a b
 | .func (.func f) a b, .func (.func g) c d => Nat.beq f g && (Qb7 a c && Qb7 b d)
 | .iface t v, .iface t' v' => Nat.beq t t' && Qh4 v v'
 | .agg a, .agg b => Qb7 a b
 | .tuple a, .tuple b => Qb7 a b
 | .any, .any => true
 | _, _ => false
def Qb7 : List AV → List AV → Bool
 | [], [] => true
 | a :: r, b :: s => Qh4 a b && Qb7 r s
 | _, _ => false
end
mutual
theorem Qlj : ∀ (a b : AV), Qh4 a b = true → a = b
 | .p a, b, h => by cases b <;> simp [Qh4] at h; rw [Qku _ _ h]
 | .ptr a o, b, h => by cases b <;> simp [Qh4] at h; obtain ⟨rfl, rfl⟩ := h; rfl
 | .gptr a o, b, h => by cases b <;> simp [Qh4] at h; obtain ⟨rfl, rfl⟩ := h; rfl
 | .rptr a, b, h => by cases b <;> simp [Qh4] at h; rw [Q30 _ _ h]
 | .slice e a o l, b, h => by cases b <;> simp [Qh4] at h; obtain ⟨rfl, rfl, rfl, rfl⟩ := h; rfl
 | .map a, b, h => by cases b <;> simp [Qh4] at h; subst h; rfl
 | .func fn a c, b, h => by
  cases b <;> cases fn <;> try (simp [Qh4] at h; done)
  rename_i fn' a' c' f
  cases fn' <;> simp [Qh4] at h
  obtain ⟨rfl, h2, h3⟩ := h
  rw [Q4l a _ h2, Q4l c _ h3]
 | .iface t v, b, h => by
  cases b <;> simp [Qh4] at h
  obtain ⟨h1, h2⟩ := h
  rw [Qlj v _ h2, h1]
 | .agg a, b, h => by
  cases b <;> simp [Qh4] at h
  rw [Q4l a _ h]
 | .tuple a, b, h => by
  cases b <;> simp [Qh4] at h
  rw [Q4l a _ h]
 | .any, b, h => by cases b <;> simp [Qh4] at h; rfl
theorem Q4l : ∀ (a b : List AV), Qb7 a b = true → a = b
 | [], b, h => by cases b <;> simp [Qb7] at h; rfl
 | x :: r, b, h => by
  cases b with
  | nil => simp [Qb7] at h
  | cons y s =>
   simp only [Qb7, Bool.and_eq_true] at h
   rw [Qlj x y h.1, Q4l r s h.2]
end
def Qre : AObj → AObj → Bool
 | .cells a, .cells b => Qb7 a b
 | .strIter s p, .strIter t q => decide (s = t) && Nat.beq p q
 | .dead, .dead => true
 | _, _ => false
theorem Qon (a b : AObj) (h : Qre a b = true) : a = b := by
 cases a <;> cases b <;> simp [Qre] at h
 ·rw [Q4l _ _ h]
 ·obtain ⟨rfl, rfl⟩ := h; rfl
 ·rfl
def Qmd : List AObj → List AObj → Bool
 | [], _ => true
 | o :: r, o' :: r' => Qre o o' && Qmd r r'
 | _ :: _, [] => false
theorem Qiw : ∀ (m H : List AObj), Qmd m H = true → ∃ rest, H = m ++ rest
 | [], H, _ => ⟨H, rfl⟩
 | o :: r, o' :: r', h => by
  simp only [Qmd, Bool.and_eq_true] at h
  obtain ⟨rest, e⟩ := Qiw r r' h.2
  exact ⟨rest, by rw [Qon _ _ h.1, e]; rfl⟩
 | _ :: _, [], h => by simp [Qmd] at h
def Qh2 : Nat → List AObj → AV → List Nat
 | 0, _, _ => []
 | n + 1, H, v => match v with
  | .ptr a _ => a :: refsDo n H (H[a]?)
  | .slice _ a _ _ => a :: refsDo n H (H[a]?)
  | .map a => [a]
  | .func _ a b => a.flatMap (Qh2 n H) ++ b.flatMap (Qh2 n H)
  | .iface _ v => Qh2 n H v
  | .agg cs => cs.flatMap (Qh2 n H)
  | .tuple cs => cs.flatMap (Qh2 n H)
  | _ => []
where refsDo (n : Nat) (H : List AObj) : Option AObj → List Nat
 | some (.cells cs) => cs.flatMap (Qh2 n H)
 | _ => []
end
end Go.Av
