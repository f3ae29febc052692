/- An abstract machine for the modelled code, and what its runs say of real calls. Part of a proof of a given statement: for every input the law returns true and the arguments read as before; no condition beyond the given row. -/
import Derived.Test.YtkemhhfbpniioaaGreatDoorAvBase
namespace Go.Av
noncomputable section
mutual
def Qd5 : PV → PV → Bool
 | .bool a, .bool b => a == b
 | .int k n, .int k' n' => decide (k = k') && decide (n = n')
 | .str s, .str t => decide (s = t)
 | .nilPtr, .nilPtr => true
 | .nilSlice, .nilSlice => true
 | .slice e r, .slice e' r' => Nat.beq e e' && Qah r r'
 | .nilMap, .nilMap => true
 | .func (.func f) a b, .func (.func g) c d => Nat.beq f g && (Q8q a c && Q8q b d)
 | .nilFunc, .nilFunc => true
 | .nilIface, .nilIface => true
 | .agg a, .agg b => Q8q a b
 | .tuple a, .tuple b => Q8q a b
 | _, _ => false
def Q8q : List PV → List PV → Bool
 | [], [] => true
 | a :: r, b :: s => Qd5 a b && Q8q r s
 | _, _ => false
def Qah : List (List PV) → List (List PV) → Bool
 | [], [] => true
 | a :: r, b :: s => Q8q a b && Qah r s
 | _, _ => false
end
mutual
theorem Qlm : ∀ (a b : PV), Qd5 a b = true → a = b
 | .bool a, b, h => by cases b <;> simp [Qd5] at h; subst h; rfl
 | .int k n, b, h => by cases b <;> simp [Qd5] at h; obtain ⟨rfl, rfl⟩ := h; rfl
 | .str s, b, h => by cases b <;> simp [Qd5] at h; subst h; rfl
 | .nilPtr, b, h => by cases b <;> simp [Qd5] at h; rfl
 | .nilSlice, b, h => by cases b <;> simp [Qd5] at h; rfl
 | .slice e r, b, h => by
  cases b <;> simp [Qd5] at h
  obtain ⟨rfl, h2⟩ := h
  rw [Qel r _ h2]
 | .nilMap, b, h => by cases b <;> simp [Qd5] at h; rfl
 | .pmap es, b, h => by cases b <;> simp [Qd5] at h
 | .func fn a c, b, h => by
  cases b <;> cases fn <;> try (simp [Qd5] at h; done)
  rename_i fn' a' c' f
  cases fn' <;> simp [Qd5] at h
  obtain ⟨rfl, h2, h3⟩ := h
  rw [Q1n a _ h2, Q1n c _ h3]
 | .nilFunc, b, h => by cases b <;> simp [Qd5] at h; rfl
 | .iface t v, b, h => by cases b <;> simp [Qd5] at h
 | .nilIface, b, h => by cases b <;> simp [Qd5] at h; rfl
 | .agg a, b, h => by
  cases b <;> simp [Qd5] at h
  rw [Q1n a _ h]
 | .tuple a, b, h => by
  cases b <;> simp [Qd5] at h
  rw [Q1n a _ h]
theorem Q1n : ∀ (a b : List PV), Q8q a b = true → a = b
 | [], b, h => by cases b <;> simp [Q8q] at h; rfl
 | x :: r, b, h => by
  cases b with
  | nil => simp [Q8q] at h
  | cons y s =>
   simp only [Q8q, Bool.and_eq_true] at h
   rw [Qlm x y h.1, Q1n r s h.2]
theorem Qel : ∀ (a b : List (List PV)), Qah a b = true → a = b
 | [], b, h => by cases b <;> simp [Qah] at h; rfl
 | x :: r, b, h => by
  cases b with
  | nil => simp [Qah] at h
  | cons y s =>
   simp only [Qah, Bool.and_eq_true] at h
   rw [Q1n x y h.1, Qel r s h.2]
end
mutual
def Qge : AV → AV → Bool
 | .p a, .p b => Qd5 a b
 | .ptr a o, .ptr b p => Nat.beq a b && Nat.beq o p
 | .gptr a o, .gptr b p => Nat.beq a b && Nat.beq o p
 | .rptr a, .rptr b => Q8q a b
 | .slice e a o l, .slice e' a' o' l' => Nat.beq e e' && (Nat.beq a a' && (Nat.beq o o' && Nat.beq l l'))
 | .map a, .map b => Nat.beq a b
 | .func (.func f) a b, .func (.func g) c d => Nat.beq f g && (Q9y a c && Q9y b d)
 | .iface t v, .iface t' v' => Nat.beq t t' && Qge v v'
 | .agg a, .agg b => Q9y a b
 | .tuple a, .tuple b => Q9y a b
 | .any, .any => true
 | _, _ => false
def Q9y : List AV → List AV → Bool
 | [], [] => true
 | a :: r, b :: s => Qge a b && Q9y r s
 | _, _ => false
end
mutual
theorem Qm9 : ∀ (a b : AV), Qge a b = true → a = b
 | .p a, b, h => by cases b <;> simp [Qge] at h; rw [Qlm _ _ h]
 | .ptr a o, b, h => by cases b <;> simp [Qge] at h; obtain ⟨rfl, rfl⟩ := h; rfl
 | .gptr a o, b, h => by cases b <;> simp [Qge] at h; obtain ⟨rfl, rfl⟩ := h; rfl
 | .rptr a, b, h => by cases b <;> simp [Qge] at h; rw [Q1n _ _ h]
 | .slice e a o l, b, h => by cases b <;> simp [Qge] at h; obtain ⟨rfl, rfl, rfl, rfl⟩ := h; rfl
 | .map a, b, h => by cases b <;> simp [Qge] at h; subst h; rfl
 | .func fn a c, b, h => by
  cases b <;> cases fn <;> try (simp [Qge] at h; done)
  rename_i fn' a' c' f
  cases fn' <;> simp [Qge] at h
  obtain ⟨rfl, h2, h3⟩ := h
  rw [Q3m a _ h2, Q3m c _ h3]
 | .iface t v, b, h => by
  cases b <;> simp [Qge] at h
  obtain ⟨h1, h2⟩ := h
  rw [Qm9 v _ h2, h1]
 | .agg a, b, h => by
  cases b <;> simp [Qge] at h
  rw [Q3m a _ h]
 | .tuple a, b, h => by
  cases b <;> simp [Qge] at h
  rw [Q3m a _ h]
 | .any, b, h => by cases b <;> simp [Qge] at h; rfl
theorem Q3m : ∀ (a b : List AV), Q9y a b = true → a = b
 | [], b, h => by cases b <;> simp [Q9y] at h; rfl
 | x :: r, b, h => by
  cases b with
  | nil => simp [Q9y] at h
  | cons y s =>
   simp only [Q9y, Bool.and_eq_true] at h
   rw [Qm9 x y h.1, Q3m r s h.2]
end
def Qri : AObj → AObj → Bool
 | .cells a, .cells b => Q9y a b
 | .strIter s p, .strIter t q => decide (s = t) && Nat.beq p q
 | .dead, .dead => true
 | _, _ => false
theorem Qnc (a b : AObj) (h : Qri a b = true) : a = b := by
 cases a <;> cases b <;> simp [Qri] at h
 ·rw [Q3m _ _ h]
 ·obtain ⟨rfl, rfl⟩ := h; rfl
 ·rfl
def Qla : List AObj → List AObj → Bool
 | [], _ => true
 | o :: r, o' :: r' => Qri o o' && Qla r r'
 | _ :: _, [] => false
theorem Qht : ∀ (m H : List AObj), Qla m H = true → ∃ rest, H = m ++ rest
 | [], H, _ => ⟨H, rfl⟩
 | o :: r, o' :: r', h => by
  simp only [Qla, Bool.and_eq_true] at h
  obtain ⟨rest, e⟩ := Qht r r' h.2
  exact ⟨rest, by rw [Qnc _ _ h.1, e]; rfl⟩
 | _ :: _, [], h => by simp [Qla] at h
def Qg0 : Nat → List AObj → AV → List Nat
 | 0, _, _ => []
 | n + 1, H, v => match v with
  | .ptr a _ => a :: refsDo n H (H[a]?)
  | .slice _ a _ _ => a :: refsDo n H (H[a]?)
  | .map a => [a]
  | .func _ a b => a.flatMap (Qg0 n H) ++ b.flatMap (Qg0 n H)
  | .iface _ v => Qg0 n H v
  | .agg cs => cs.flatMap (Qg0 n H)
  | .tuple cs => cs.flatMap (Qg0 n H)
  | _ => []
where refsDo (n : Nat) (H : List AObj) : Option AObj → List Nat
 | some (.cells cs) => cs.flatMap (Qg0 n H)
 | _ => []
end
end Go.Av
