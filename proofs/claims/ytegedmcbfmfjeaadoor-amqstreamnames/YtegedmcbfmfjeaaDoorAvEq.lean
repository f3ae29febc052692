/- An abstract machine for the modelled code, and what its runs say of real calls. Part of a proof of a given statement: for every input the law returns true and the arguments read as before; no condition beyond the given row. -/
import Derived.Test.YtegedmcbfmfjeaaDoorAvBase
namespace Go.Av
noncomputable section
mutual
def Q4k : PV → PV → Bool
 | .bool a, .bool b => a == b
 | .int k n, .int k' n' => decide (k = k') && decide (n = n')
 | .str s, .str t => decide (s = t)
 | .nilPtr, .nilPtr => true
 | .nilSlice, .nilSlice => true
 | .slice e r, .slice e' r' => Nat.beq e e' && Q3a r r'
 | .nilMap, .nilMap => true
 | .func (.func f) a b, .func (.func g) c d => Nat.beq f g && (Q1h a c && Q1h b d)
 | .nilFunc, .nilFunc => true
 | .nilIface, .nilIface => true
 | .agg a, .agg b => Q1h a b
 | .tuple a, .tuple b => Q1h a b
 | _, _ => false
def Q1h : List PV → List PV → Bool
 | [], [] => true
 | a :: r, b :: s => Q4k a b && Q1h r s
 | _, _ => false
def Q3a : List (List PV) → List (List PV) → Bool
 | [], [] => true
 | a :: r, b :: s => Q1h a b && Q3a r s
 | _, _ => false
end
mutual
theorem Q94 : ∀ (a b : PV), Q4k a b = true → a = b
 | .bool a, b, h => by cases b <;> simp [Q4k] at h; subst h; rfl
 | .int k n, b, h => by cases b <;> simp [Q4k] at h; obtain ⟨rfl, rfl⟩ := h; rfl
 | .str s, b, h => by cases b <;> simp [Q4k] at h; subst h; rfl
 | .nilPtr, b, h => by cases b <;> simp [Q4k] at h; rfl
 | .nilSlice, b, h => by cases b <;> simp [Q4k] at h; rfl
 | .slice e r, b, h => by
  cases b <;> simp [Q4k] at h
  obtain ⟨rfl, h2⟩ := h
  rw [Q5i r _ h2]
 | .nilMap, b, h => by cases b <;> simp [Q4k] at h; rfl
 | .pmap es, b, h => by cases b <;> simp [Q4k] at h
 | .func fn a c, b, h => by
  cases b <;> cases fn <;> try (simp [Q4k] at h; done)
  rename_i fn' a' c' f
  cases fn' <;> simp [Q4k] at h
  obtain ⟨rfl, h2, h3⟩ := h
  rw [U6 a _ h2, U6 c _ h3]
 | .nilFunc, b, h => by cases b <;> simp [Q4k] at h; rfl
 | .iface t v, b, h => by cases b <;> simp [Q4k] at h
 | .nilIface, b, h => by cases b <;> simp [Q4k] at h; rfl
 | .agg a, b, h => by
  cases b <;> simp [Q4k] at h
  rw [U6 a _ h]
 | .tuple a, b, h => by
  cases b <;> simp [Q4k] at h
  rw [U6 a _ h]
theorem U6 : ∀ (a b : List PV), Q1h a b = true → a = b
 | [], b, h => by cases b <;> simp [Q1h] at h; rfl
 | x :: r, b, h => by
  cases b with
  | nil => simp [Q1h] at h
  | cons y s =>
   simp only [Q1h, Bool.and_eq_true] at h
   rw [Q94 x y h.1, U6 r s h.2]
theorem Q5i : ∀ (a b : List (List PV)), Q3a a b = true → a = b
 | [], b, h => by cases b <;> simp [Q3a] at h; rfl
 | x :: r, b, h => by
  cases b with
  | nil => simp [Q3a] at h
  | cons y s =>
   simp only [Q3a, Bool.and_eq_true] at h
   rw [U6 x y h.1, Q5i r s h.2]
end
mutual
def Q6i : AV → AV → Bool
 | .p a, .p b => Q4k a b
 | .ptr a o, .ptr b p => Nat.beq a b && Nat.beq o p
 | .gptr a o, .gptr b p => Nat.beq a b && Nat.beq o p
 | .rptr a, .rptr b => Q1h a b
 | .slice e a o l, .slice e' a' o' l' => Nat.beq e e' && (Nat.beq a a' && (Nat.beq o o' && Nat.beq l l'))
 | .map a, .map b => Nat.beq a b
 | .func (.func f) a b, .func (.func g) c d => Nat.beq f g && (Q2p a c && Q2p b d)
 | .iface t v, .iface t' v' => Nat.beq t t' && Q6i v v'
 | .agg a, .agg b => Q2p a b
 | .tuple a, .tuple b => Q2p a b
 | .any, .any => true
 | _, _ => false
def Q2p : List AV → List AV → Bool
 | [], [] => true
 | a :: r, b :: s => Q6i a b && Q2p r s
 | _, _ => false
end
mutual
theorem Q9u : ∀ (a b : AV), Q6i a b = true → a = b
 | .p a, b, h => by cases b <;> simp [Q6i] at h; rw [Q94 _ _ h]
 | .ptr a o, b, h => by cases b <;> simp [Q6i] at h; obtain ⟨rfl, rfl⟩ := h; rfl
 | .gptr a o, b, h => by cases b <;> simp [Q6i] at h; obtain ⟨rfl, rfl⟩ := h; rfl
 | .rptr a, b, h => by cases b <;> simp [Q6i] at h; rw [U6 _ _ h]
 | .slice e a o l, b, h => by cases b <;> simp [Q6i] at h; obtain ⟨rfl, rfl, rfl, rfl⟩ := h; rfl
 | .map a, b, h => by cases b <;> simp [Q6i] at h; subst h; rfl
 | .func fn a c, b, h => by
  cases b <;> cases fn <;> try (simp [Q6i] at h; done)
  rename_i fn' a' c' f
  cases fn' <;> simp [Q6i] at h
  obtain ⟨rfl, h2, h3⟩ := h
  rw [J9 a _ h2, J9 c _ h3]
 | .iface t v, b, h => by
  cases b <;> simp [Q6i] at h
  obtain ⟨h1, h2⟩ := h
  rw [Q9u v _ h2, h1]
 | .agg a, b, h => by
  cases b <;> simp [Q6i] at h
  rw [J9 a _ h]
 | .tuple a, b, h => by
  cases b <;> simp [Q6i] at h
  rw [J9 a _ h]
 | .any, b, h => by cases b <;> simp [Q6i] at h; rfl
theorem J9 : ∀ (a b : List AV), Q2p a b = true → a = b
 | [], b, h => by cases b <;> simp [Q2p] at h; rfl
 | x :: r, b, h => by
  cases b with
  | nil => simp [Q2p] at h
  | cons y s =>
   simp only [Q2p, Bool.and_eq_true] at h
   rw [Q9u x y h.1, J9 r s h.2]
end
def Qdq : AObj → AObj → Bool
 | .cells a, .cells b => Q2p a b
 | .strIter s p, .strIter t q => decide (s = t) && Nat.beq p q
 | .dead, .dead => true
 | _, _ => false
theorem Qbe (a b : AObj) (h : Qdq a b = true) : a = b := by
 cases a <;> cases b <;> simp [Qdq] at h
 ·rw [J9 _ _ h]
 ·obtain ⟨rfl, rfl⟩ := h; rfl
 ·rfl
def Q95 : List AObj → List AObj → Bool
 | [], _ => true
 | o :: r, o' :: r' => Qdq o o' && Q95 r r'
 | _ :: _, [] => false
theorem Q7f : ∀ (m H : List AObj), Q95 m H = true → ∃ rest, H = m ++ rest
 | [], H, _ => ⟨H, rfl⟩
 | o :: r, o' :: r', h => by
  simp only [Q95, Bool.and_eq_true] at h
  obtain ⟨rest, e⟩ := Q7f r r' h.2
  exact ⟨rest, by rw [Qbe _ _ h.1, e]; rfl⟩
 | _ :: _, [], h => by simp [Q95] at h
def Q6b : Nat → List AObj → AV → List Nat
 | 0, _, _ => []
 | n + 1, H, v => match v with
  | .ptr a _ => a :: refsDo n H (H[a]?)
  | .slice _ a _ _ => a :: refsDo n H (H[a]?)
  | .map a => [a]
  | .func _ a b => a.flatMap (Q6b n H) ++ b.flatMap (Q6b n H)
  | .iface _ v => Q6b n H v
  | .agg cs => cs.flatMap (Q6b n H)
  | .tuple cs => cs.flatMap (Q6b n H)
  | _ => []
where refsDo (n : Nat) (H : List AObj) : Option AObj → List Nat
 | some (.cells cs) => cs.flatMap (Q6b n H)
 | _ => []
end
end Go.Av
