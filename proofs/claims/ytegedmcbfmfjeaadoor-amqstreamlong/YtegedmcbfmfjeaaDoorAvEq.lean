/- An abstract machine for the modelled code, and what its runs say of real calls. Part of a proof of a given statement: for every input the law returns true and the arguments read as before; no condition beyond the given row. -/
import Derived.Test.YtegedmcbfmfjeaaDoorAvBase
namespace Go.Av
noncomputable section
mutual
def Q79 : PV → PV → Bool
 | .bool a, .bool b => a == b
 | .int k n, .int k' n' => decide (k = k') && decide (n = n')
 | .str s, .str t => decide (s = t)
 | .nilPtr, .nilPtr => true
 | .nilSlice, .nilSlice => true
 | .slice e r, .slice e' r' => Nat.beq e e' && Q5q r r'
 | .nilMap, .nilMap => true
 | .func (.func f) a b, .func (.func g) c d => Nat.beq f g && (Q3w a c && Q3w b d)
 | .nilFunc, .nilFunc => true
 | .nilIface, .nilIface => true
 | .agg a, .agg b => Q3w a b
 | .tuple a, .tuple b => Q3w a b
 | _, _ => false
def Q3w : List PV → List PV → Bool
 | [], [] => true
 | a :: r, b :: s => Q79 a b && Q3w r s
 | _, _ => false
def Q5q : List (List PV) → List (List PV) → Bool
 | [], [] => true
 | a :: r, b :: s => Q3w a b && Q5q r s
 | _, _ => false
end
mutual
theorem Qdi : ∀ (a b : PV), Q79 a b = true → a = b
 | .bool a, b, h => by cases b <;> simp [Q79] at h; subst h; rfl
 | .int k n, b, h => by cases b <;> simp [Q79] at h; obtain ⟨rfl, rfl⟩ := h; rfl
 | .str s, b, h => by cases b <;> simp [Q79] at h; subst h; rfl
 | .nilPtr, b, h => by cases b <;> simp [Q79] at h; rfl
 | .nilSlice, b, h => by cases b <;> simp [Q79] at h; rfl
 | .slice e r, b, h => by
  cases b <;> simp [Q79] at h
  obtain ⟨rfl, h2⟩ := h
  rw [Q7k r _ h2]
 | .nilMap, b, h => by cases b <;> simp [Q79] at h; rfl
 | .pmap es, b, h => by cases b <;> simp [Q79] at h
 | .func fn a c, b, h => by
  cases b <;> cases fn <;> try (simp [Q79] at h; done)
  rename_i fn' a' c' f
  cases fn' <;> simp [Q79] at h
  obtain ⟨rfl, h2, h3⟩ := h
  rw [Ut a _ h2, Ut c _ h3]
 | .nilFunc, b, h => by cases b <;> simp [Q79] at h; rfl
 | .iface t v, b, h => by cases b <;> simp [Q79] at h
 | .nilIface, b, h => by cases b <;> simp [Q79] at h; rfl
 | .agg a, b, h => by
  cases b <;> simp [Q79] at h
  rw [Ut a _ h]
 | .tuple a, b, h => by
  cases b <;> simp [Q79] at h
  rw [Ut a _ h]
theorem Ut : ∀ (a b : List PV), Q3w a b = true → a = b
 | [], b, h => by cases b <;> simp [Q3w] at h; rfl
 | x :: r, b, h => by
  cases b with
  | nil => simp [Q3w] at h
  | cons y s =>
   simp only [Q3w, Bool.and_eq_true] at h
   rw [Qdi x y h.1, Ut r s h.2]
theorem Q7k : ∀ (a b : List (List PV)), Q5q a b = true → a = b
 | [], b, h => by cases b <;> simp [Q5q] at h; rfl
 | x :: r, b, h => by
  cases b with
  | nil => simp [Q5q] at h
  | cons y s =>
   simp only [Q5q, Bool.and_eq_true] at h
   rw [Ut x y h.1, Q7k r s h.2]
end
mutual
def Qa2 : AV → AV → Bool
 | .p a, .p b => Q79 a b
 | .ptr a o, .ptr b p => Nat.beq a b && Nat.beq o p
 | .gptr a o, .gptr b p => Nat.beq a b && Nat.beq o p
 | .rptr a, .rptr b => Q3w a b
 | .slice e a o l, .slice e' a' o' l' => Nat.beq e e' && (Nat.beq a a' && (Nat.beq o o' && Nat.beq l l'))
 | .map a, .map b => Nat.beq a b
 | .func (.func f) a b, .func (.func g) c d => Nat.beq f g && (Q4y a c && Q4y b d)
 | .iface t v, .iface t' v' => Nat.beq t t' && Qa2 v v'
 | .agg a, .agg b => Q4y a b
 | .tuple a, .tuple b => Q4y a b
 | .any, .any => true
 | _, _ => false
def Q4y : List AV → List AV → Bool
 | [], [] => true
 | a :: r, b :: s => Qa2 a b && Q4y r s
 | _, _ => false
end
mutual
theorem Qcn : ∀ (a b : AV), Qa2 a b = true → a = b
 | .p a, b, h => by cases b <;> simp [Qa2] at h; rw [Qdi _ _ h]
 | .ptr a o, b, h => by cases b <;> simp [Qa2] at h; obtain ⟨rfl, rfl⟩ := h; rfl
 | .gptr a o, b, h => by cases b <;> simp [Qa2] at h; obtain ⟨rfl, rfl⟩ := h; rfl
 | .rptr a, b, h => by cases b <;> simp [Qa2] at h; rw [Ut _ _ h]
 | .slice e a o l, b, h => by cases b <;> simp [Qa2] at h; obtain ⟨rfl, rfl, rfl, rfl⟩ := h; rfl
 | .map a, b, h => by cases b <;> simp [Qa2] at h; subst h; rfl
 | .func fn a c, b, h => by
  cases b <;> cases fn <;> try (simp [Qa2] at h; done)
  rename_i fn' a' c' f
  cases fn' <;> simp [Qa2] at h
  obtain ⟨rfl, h2, h3⟩ := h
  rw [Gh a _ h2, Gh c _ h3]
 | .iface t v, b, h => by
  cases b <;> simp [Qa2] at h
  obtain ⟨h1, h2⟩ := h
  rw [Qcn v _ h2, h1]
 | .agg a, b, h => by
  cases b <;> simp [Qa2] at h
  rw [Gh a _ h]
 | .tuple a, b, h => by
  cases b <;> simp [Qa2] at h
  rw [Gh a _ h]
 | .any, b, h => by cases b <;> simp [Qa2] at h; rfl
theorem Gh : ∀ (a b : List AV), Q4y a b = true → a = b
 | [], b, h => by cases b <;> simp [Q4y] at h; rfl
 | x :: r, b, h => by
  cases b with
  | nil => simp [Q4y] at h
  | cons y s =>
   simp only [Q4y, Bool.and_eq_true] at h
   rw [Qcn x y h.1, Gh r s h.2]
end
def Qis : AObj → AObj → Bool
 | .cells a, .cells b => Q4y a b
 | .strIter s p, .strIter t q => decide (s = t) && Nat.beq p q
 | .dead, .dead => true
 | _, _ => false
theorem Qfj (a b : AObj) (h : Qis a b = true) : a = b := by
 cases a <;> cases b <;> simp [Qis] at h
 ·rw [Gh _ _ h]
 ·obtain ⟨rfl, rfl⟩ := h; rfl
 ·rfl
def Qdy : List AObj → List AObj → Bool
 | [], _ => true
 | o :: r, o' :: r' => Qis o o' && Qdy r r'
 | _ :: _, [] => false
theorem Qb1 : ∀ (m H : List AObj), Qdy m H = true → ∃ rest, H = m ++ rest
 | [], H, _ => ⟨H, rfl⟩
 | o :: r, o' :: r', h => by
  simp only [Qdy, Bool.and_eq_true] at h
  obtain ⟨rest, e⟩ := Qb1 r r' h.2
  exact ⟨rest, by rw [Qfj _ _ h.1, e]; rfl⟩
 | _ :: _, [], h => by simp [Qdy] at h
def Qa3 : Nat → List AObj → AV → List Nat
 | 0, _, _ => []
 | n + 1, H, v => match v with
  | .ptr a _ => a :: refsDo n H (H[a]?)
  | .slice _ a _ _ => a :: refsDo n H (H[a]?)
  | .map a => [a]
  | .func _ a b => a.flatMap (Qa3 n H) ++ b.flatMap (Qa3 n H)
  | .iface _ v => Qa3 n H v
  | .agg cs => cs.flatMap (Qa3 n H)
  | .tuple cs => cs.flatMap (Qa3 n H)
  | _ => []
where refsDo (n : Nat) (H : List AObj) : Option AObj → List Nat
 | some (.cells cs) => cs.flatMap (Qa3 n H)
 | _ => []
end
end Go.Av
