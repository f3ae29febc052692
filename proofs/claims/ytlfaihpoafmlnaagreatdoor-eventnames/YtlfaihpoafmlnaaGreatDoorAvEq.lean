/- An abstract machine for the modelled code, and what its runs say of real calls. Part of a proof of a given statement: for every input the law returns true and the arguments read as before; no condition beyond the given row. -/
import Derived.Test.YtlfaihpoafmlnaaGreatDoorAvBase
namespace Go.Av
noncomputable section
mutual
def G6 : PV → PV → Bool
 | .bool a, .bool b => a == b
 | .int k n, .int k' n' => decide (k = k') && decide (n = n')
 | .str s, .str t => decide (s = t)
 | .nilPtr, .nilPtr => true
 | .nilSlice, .nilSlice => true
 | .slice e r, .slice e' r' => Nat.beq e e' && J9 r r'
 | .nilMap, .nilMap => true
 | .func (.func f) a b, .func (.func g) c d => Nat.beq f g && (Vj a c && Vj b d)
 | .nilFunc, .nilFunc => true
 | .nilIface, .nilIface => true
 | .agg a, .agg b => Vj a b
 | .tuple a, .tuple b => Vj a b
 | _, _ => false
def Vj : List PV → List PV → Bool
 | [], [] => true
 | a :: r, b :: s => G6 a b && Vj r s
 | _, _ => false
def J9 : List (List PV) → List (List PV) → Bool
 | [], [] => true
 | a :: r, b :: s => Vj a b && J9 r s
 | _, _ => false
end
mutual
theorem Q3a : ∀ (a b : PV), G6 a b = true → a = b
 | .bool a, b, h => by cases b <;> simp [G6] at h; subst h; rfl
 | .int k n, b, h => by cases b <;> simp [G6] at h; obtain ⟨rfl, rfl⟩ := h; rfl
 | .str s, b, h => by cases b <;> simp [G6] at h; subst h; rfl
 | .nilPtr, b, h => by cases b <;> simp [G6] at h; rfl
 | .nilSlice, b, h => by cases b <;> simp [G6] at h; rfl
 | .slice e r, b, h => by
  cases b <;> simp [G6] at h
  obtain ⟨rfl, h2⟩ := h
  rw [Q02 r _ h2]
 | .nilMap, b, h => by cases b <;> simp [G6] at h; rfl
 | .pmap es, b, h => by cases b <;> simp [G6] at h
 | .func fn a c, b, h => by
  cases b <;> cases fn <;> try (simp [G6] at h; done)
  rename_i fn' a' c' f
  cases fn' <;> simp [G6] at h
  obtain ⟨rfl, h2, h3⟩ := h
  rw [Yh a _ h2, Yh c _ h3]
 | .nilFunc, b, h => by cases b <;> simp [G6] at h; rfl
 | .iface t v, b, h => by cases b <;> simp [G6] at h
 | .nilIface, b, h => by cases b <;> simp [G6] at h; rfl
 | .agg a, b, h => by
  cases b <;> simp [G6] at h
  rw [Yh a _ h]
 | .tuple a, b, h => by
  cases b <;> simp [G6] at h
  rw [Yh a _ h]
theorem Yh : ∀ (a b : List PV), Vj a b = true → a = b
 | [], b, h => by cases b <;> simp [Vj] at h; rfl
 | x :: r, b, h => by
  cases b with
  | nil => simp [Vj] at h
  | cons y s =>
   simp only [Vj, Bool.and_eq_true] at h
   rw [Q3a x y h.1, Yh r s h.2]
theorem Q02 : ∀ (a b : List (List PV)), J9 a b = true → a = b
 | [], b, h => by cases b <;> simp [J9] at h; rfl
 | x :: r, b, h => by
  cases b with
  | nil => simp [J9] at h
  | cons y s =>
   simp only [J9, Bool.and_eq_true] at h
   rw [Yh x y h.1, Q02 r s h.2]
end
mutual
def Q11 : AV → AV → Bool
 | .p a, .p b => G6 a b
 | .ptr a o, .ptr b p => Nat.beq a b && Nat.beq o p
 | .gptr a o, .gptr b p => Nat.beq a b && Nat.beq o p
 | .rptr a, .rptr b => Vj a b
 | .slice e a o l, .slice e' a' o' l' => Nat.beq e e' && (Nat.beq a a' && (Nat.beq o o' && Nat.beq l l'))
 | .map a, .map b => Nat.beq a b
 | .func (.func f) a b, .func (.func g) c d => Nat.beq f g && (Uj a c && Uj b d)
 | .iface t v, .iface t' v' => Nat.beq t t' && Q11 v v'
 | .agg a, .agg b => Uj a b
 | .tuple a, .tuple b => Uj a b
 | .any, .any => true
 | _, _ => false
def Uj : List AV → List AV → Bool
 | [], [] => true
 | a :: r, b :: s => Q11 a b && Uj r s
 | _, _ => false
end
mutual
theorem Q3q : ∀ (a b : AV), Q11 a b = true → a = b
 | .p a, b, h => by cases b <;> simp [Q11] at h; rw [Q3a _ _ h]
 | .ptr a o, b, h => by cases b <;> simp [Q11] at h; obtain ⟨rfl, rfl⟩ := h; rfl
 | .gptr a o, b, h => by cases b <;> simp [Q11] at h; obtain ⟨rfl, rfl⟩ := h; rfl
 | .rptr a, b, h => by cases b <;> simp [Q11] at h; rw [Yh _ _ h]
 | .slice e a o l, b, h => by cases b <;> simp [Q11] at h; obtain ⟨rfl, rfl, rfl, rfl⟩ := h; rfl
 | .map a, b, h => by cases b <;> simp [Q11] at h; subst h; rfl
 | .func fn a c, b, h => by
  cases b <;> cases fn <;> try (simp [Q11] at h; done)
  rename_i fn' a' c' f
  cases fn' <;> simp [Q11] at h
  obtain ⟨rfl, h2, h3⟩ := h
  rw [X4 a _ h2, X4 c _ h3]
 | .iface t v, b, h => by
  cases b <;> simp [Q11] at h
  obtain ⟨h1, h2⟩ := h
  rw [Q3q v _ h2, h1]
 | .agg a, b, h => by
  cases b <;> simp [Q11] at h
  rw [X4 a _ h]
 | .tuple a, b, h => by
  cases b <;> simp [Q11] at h
  rw [X4 a _ h]
 | .any, b, h => by cases b <;> simp [Q11] at h; rfl
theorem X4 : ∀ (a b : List AV), Uj a b = true → a = b
 | [], b, h => by cases b <;> simp [Uj] at h; rfl
 | x :: r, b, h => by
  cases b with
  | nil => simp [Uj] at h
  | cons y s =>
   simp only [Uj, Bool.and_eq_true] at h
   rw [Q3q x y h.1, X4 r s h.2]
end
def Q6j : AObj → AObj → Bool
 | .cells a, .cells b => Uj a b
 | .strIter s p, .strIter t q => decide (s = t) && Nat.beq p q
 | .dead, .dead => true
 | _, _ => false
theorem Q51 (a b : AObj) (h : Q6j a b = true) : a = b := by
 cases a <;> cases b <;> simp [Q6j] at h
 ·rw [X4 _ _ h]
 ·obtain ⟨rfl, rfl⟩ := h; rfl
 ·rfl
def Q46 : List AObj → List AObj → Bool
 | [], _ => true
 | o :: r, o' :: r' => Q6j o o' && Q46 r r'
 | _ :: _, [] => false
theorem Q1u : ∀ (m H : List AObj), Q46 m H = true → ∃ rest, H = m ++ rest
 | [], H, _ => ⟨H, rfl⟩
 | o :: r, o' :: r', h => by
  simp only [Q46, Bool.and_eq_true] at h
  obtain ⟨rest, e⟩ := Q1u r r' h.2
  exact ⟨rest, by rw [Q51 _ _ h.1, e]; rfl⟩
 | _ :: _, [], h => by simp [Q46] at h
def Q0y : Nat → List AObj → AV → List Nat
 | 0, _, _ => []
 | n + 1, H, v => match v with
  | .ptr a _ => a :: refsDo n H (H[a]?)
  | .slice _ a _ _ => a :: refsDo n H (H[a]?)
  | .map a => [a]
  | .func _ a b => a.flatMap (Q0y n H) ++ b.flatMap (Q0y n H)
  | .iface _ v => Q0y n H v
  | .agg cs => cs.flatMap (Q0y n H)
  | .tuple cs => cs.flatMap (Q0y n H)
  | _ => []
where refsDo (n : Nat) (H : List AObj) : Option AObj → List Nat
 | some (.cells cs) => cs.flatMap (Q0y n H)
 | _ => []
end
end Go.Av
