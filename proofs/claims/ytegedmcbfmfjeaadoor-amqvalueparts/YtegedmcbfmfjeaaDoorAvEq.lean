/- An abstract machine for the modelled code, and what its runs say of real calls. Part of a proof of a given statement: for every input the law returns true and the arguments read as before; no condition beyond the given row. -/
import Derived.Test.YtegedmcbfmfjeaaDoorAvBase
namespace Go.Av
noncomputable section
mutual
def Qb1 : PV → PV → Bool
 | .bool a, .bool b => a == b
 | .int k n, .int k' n' => decide (k = k') && decide (n = n')
 | .str s, .str t => decide (s = t)
 | .nilPtr, .nilPtr => true
 | .nilSlice, .nilSlice => true
 | .slice e r, .slice e' r' => Nat.beq e e' && Q8p r r'
 | .nilMap, .nilMap => true
 | .func (.func f) a b, .func (.func g) c d => Nat.beq f g && (Q7m a c && Q7m b d)
 | .nilFunc, .nilFunc => true
 | .nilIface, .nilIface => true
 | .agg a, .agg b => Q7m a b
 | .tuple a, .tuple b => Q7m a b
 | _, _ => false
def Q7m : List PV → List PV → Bool
 | [], [] => true
 | a :: r, b :: s => Qb1 a b && Q7m r s
 | _, _ => false
def Q8p : List (List PV) → List (List PV) → Bool
 | [], [] => true
 | a :: r, b :: s => Q7m a b && Q8p r s
 | _, _ => false
end
mutual
theorem Qjn : ∀ (a b : PV), Qb1 a b = true → a = b
 | .bool a, b, h => by cases b <;> simp [Qb1] at h; subst h; rfl
 | .int k n, b, h => by cases b <;> simp [Qb1] at h; obtain ⟨rfl, rfl⟩ := h; rfl
 | .str s, b, h => by cases b <;> simp [Qb1] at h; subst h; rfl
 | .nilPtr, b, h => by cases b <;> simp [Qb1] at h; rfl
 | .nilSlice, b, h => by cases b <;> simp [Qb1] at h; rfl
 | .slice e r, b, h => by
  cases b <;> simp [Qb1] at h
  obtain ⟨rfl, h2⟩ := h
  rw [Qc3 r _ h2]
 | .nilMap, b, h => by cases b <;> simp [Qb1] at h; rfl
 | .pmap es, b, h => by cases b <;> simp [Qb1] at h
 | .func fn a c, b, h => by
  cases b <;> cases fn <;> try (simp [Qb1] at h; done)
  rename_i fn' a' c' f
  cases fn' <;> simp [Qb1] at h
  obtain ⟨rfl, h2, h3⟩ := h
  rw [Q11 a _ h2, Q11 c _ h3]
 | .nilFunc, b, h => by cases b <;> simp [Qb1] at h; rfl
 | .iface t v, b, h => by cases b <;> simp [Qb1] at h
 | .nilIface, b, h => by cases b <;> simp [Qb1] at h; rfl
 | .agg a, b, h => by
  cases b <;> simp [Qb1] at h
  rw [Q11 a _ h]
 | .tuple a, b, h => by
  cases b <;> simp [Qb1] at h
  rw [Q11 a _ h]
theorem Q11 : ∀ (a b : List PV), Q7m a b = true → a = b
 | [], b, h => by cases b <;> simp [Q7m] at h; rfl
 | x :: r, b, h => by
  cases b with
  | nil => simp [Q7m] at h
  | cons y s =>
   simp only [Q7m, Bool.and_eq_true] at h
   rw [Qjn x y h.1, Q11 r s h.2]
theorem Qc3 : ∀ (a b : List (List PV)), Q8p a b = true → a = b
 | [], b, h => by cases b <;> simp [Q8p] at h; rfl
 | x :: r, b, h => by
  cases b with
  | nil => simp [Q8p] at h
  | cons y s =>
   simp only [Q8p, Bool.and_eq_true] at h
   rw [Q11 x y h.1, Qc3 r s h.2]
end
mutual
def Qdb : AV → AV → Bool
 | .p a, .p b => Qb1 a b
 | .ptr a o, .ptr b p => Nat.beq a b && Nat.beq o p
 | .gptr a o, .gptr b p => Nat.beq a b && Nat.beq o p
 | .rptr a, .rptr b => Q7m a b
 | .slice e a o l, .slice e' a' o' l' => Nat.beq e e' && (Nat.beq a a' && (Nat.beq o o' && Nat.beq l l'))
 | .map a, .map b => Nat.beq a b
 | .func (.func f) a b, .func (.func g) c d => Nat.beq f g && (Q8j a c && Q8j b d)
 | .iface t v, .iface t' v' => Nat.beq t t' && Qdb v v'
 | .agg a, .agg b => Q8j a b
 | .tuple a, .tuple b => Q8j a b
 | .any, .any => true
 | _, _ => false
def Q8j : List AV → List AV → Bool
 | [], [] => true
 | a :: r, b :: s => Qdb a b && Q8j r s
 | _, _ => false
end
mutual
theorem Qhr : ∀ (a b : AV), Qdb a b = true → a = b
 | .p a, b, h => by cases b <;> simp [Qdb] at h; rw [Qjn _ _ h]
 | .ptr a o, b, h => by cases b <;> simp [Qdb] at h; obtain ⟨rfl, rfl⟩ := h; rfl
 | .gptr a o, b, h => by cases b <;> simp [Qdb] at h; obtain ⟨rfl, rfl⟩ := h; rfl
 | .rptr a, b, h => by cases b <;> simp [Qdb] at h; rw [Q11 _ _ h]
 | .slice e a o l, b, h => by cases b <;> simp [Qdb] at h; obtain ⟨rfl, rfl, rfl, rfl⟩ := h; rfl
 | .map a, b, h => by cases b <;> simp [Qdb] at h; subst h; rfl
 | .func fn a c, b, h => by
  cases b <;> cases fn <;> try (simp [Qdb] at h; done)
  rename_i fn' a' c' f
  cases fn' <;> simp [Qdb] at h
  obtain ⟨rfl, h2, h3⟩ := h
  rw [Q2b a _ h2, Q2b c _ h3]
 | .iface t v, b, h => by
  cases b <;> simp [Qdb] at h
  obtain ⟨h1, h2⟩ := h
  rw [Qhr v _ h2, h1]
 | .agg a, b, h => by
  cases b <;> simp [Qdb] at h
  rw [Q2b a _ h]
 | .tuple a, b, h => by
  cases b <;> simp [Qdb] at h
  rw [Q2b a _ h]
 | .any, b, h => by cases b <;> simp [Qdb] at h; rfl
theorem Q2b : ∀ (a b : List AV), Q8j a b = true → a = b
 | [], b, h => by cases b <;> simp [Q8j] at h; rfl
 | x :: r, b, h => by
  cases b with
  | nil => simp [Q8j] at h
  | cons y s =>
   simp only [Q8j, Bool.and_eq_true] at h
   rw [Qhr x y h.1, Q2b r s h.2]
end
def Qml : AObj → AObj → Bool
 | .cells a, .cells b => Q8j a b
 | .strIter s p, .strIter t q => decide (s = t) && Nat.beq p q
 | .dead, .dead => true
 | _, _ => false
theorem Qkq (a b : AObj) (h : Qml a b = true) : a = b := by
 cases a <;> cases b <;> simp [Qml] at h
 ·rw [Q2b _ _ h]
 ·obtain ⟨rfl, rfl⟩ := h; rfl
 ·rfl
def Qh8 : List AObj → List AObj → Bool
 | [], _ => true
 | o :: r, o' :: r' => Qml o o' && Qh8 r r'
 | _ :: _, [] => false
theorem Qf6 : ∀ (m H : List AObj), Qh8 m H = true → ∃ rest, H = m ++ rest
 | [], H, _ => ⟨H, rfl⟩
 | o :: r, o' :: r', h => by
  simp only [Qh8, Bool.and_eq_true] at h
  obtain ⟨rest, e⟩ := Qf6 r r' h.2
  exact ⟨rest, by rw [Qkq _ _ h.1, e]; rfl⟩
 | _ :: _, [], h => by simp [Qh8] at h
def Qdl : Nat → List AObj → AV → List Nat
 | 0, _, _ => []
 | n + 1, H, v => match v with
  | .ptr a _ => a :: refsDo n H (H[a]?)
  | .slice _ a _ _ => a :: refsDo n H (H[a]?)
  | .map a => [a]
  | .func _ a b => a.flatMap (Qdl n H) ++ b.flatMap (Qdl n H)
  | .iface _ v => Qdl n H v
  | .agg cs => cs.flatMap (Qdl n H)
  | .tuple cs => cs.flatMap (Qdl n H)
  | _ => []
where refsDo (n : Nat) (H : List AObj) : Option AObj → List Nat
 | some (.cells cs) => cs.flatMap (Qdl n H)
 | _ => []
end
end Go.Av
