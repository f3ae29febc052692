/- An abstract machine for the modelled code, and what its runs say of real calls. Part of a proof of a given statement: for every input the law returns true and the arguments read as before; no condition beyond the given row. -/
import Derived.Test.YtkemhhfbpniioaaGreatDoorAvBase
namespace Go.Av
noncomputable section
mutual
def Qb6 : PV → PV → Bool
 | .bool a, .bool b => a == b
 | .int k n, .int k' n' => decide (k = k') && decide (n = n')
 | .str s, .str t => decide (s = t)
 | .nilPtr, .nilPtr => true
 | .nilSlice, .nilSlice => true
 | .slice e r, .slice e' r' => Nat.beq e e' && Q99 r r'
 | .nilMap, .nilMap => true
 | .func (.func f) a b, .func (.func g) c d => Nat.beq f g && (Q7o a c && Q7o b d)
 | .nilFunc, .nilFunc => true
 | .nilIface, .nilIface => true
 | .agg a, .agg b => Q7o a b
 | .tuple a, .tuple b => Q7o a b
 | _, _ => false
def Q7o : List PV → List PV → Bool
 | [], [] => true
 | a :: r, b :: s => Qb6 a b && Q7o r s
 | _, _ => false
def Q99 : List (List PV) → List (List PV) → Bool
 | [], [] => true
 | a :: r, b :: s => Q7o a b && Q99 r s
 | _, _ => false
end
mutual
theorem Qkc : ∀ (a b : PV), Qb6 a b = true → a = b
 | .bool a, b, h => by cases b <;> simp [Qb6] at h; subst h; rfl
 | .int k n, b, h => by cases b <;> simp [Qb6] at h; obtain ⟨rfl, rfl⟩ := h; rfl
 | .str s, b, h => by cases b <;> simp [Qb6] at h; subst h; rfl
 | .nilPtr, b, h => by cases b <;> simp [Qb6] at h; rfl
 | .nilSlice, b, h => by cases b <;> simp [Qb6] at h; rfl
 | .slice e r, b, h => by
  cases b <;> simp [Qb6] at h
  obtain ⟨rfl, h2⟩ := h
  rw [Qd1 r _ h2]
 | .nilMap, b, h => by cases b <;> simp [Qb6] at h; rfl
 | .pmap es, b, h => by cases b <;> simp [Qb6] at h
 | .func fn a c, b, h => by
  cases b <;> cases fn <;> try (simp [Qb6] at h; done)
  rename_i fn' a' c' f
  cases fn' <;> simp [Qb6] at h
  obtain ⟨rfl, h2, h3⟩ := h
  rw [Q13 a _ h2, Q13 c _ h3]
 | .nilFunc, b, h => by cases b <;> simp [Qb6] at h; rfl
 | .iface t v, b, h => by cases b <;> simp [Qb6] at h
 | .nilIface, b, h => by cases b <;> simp [Qb6] at h; rfl
 | .agg a, b, h => by
  cases b <;> simp [Qb6] at h
  rw [Q13 a _ h]
 | .tuple a, b, h => by
  cases b <;> simp [Qb6] at h
  rw [Q13 a _ h]
theorem Q13 : ∀ (a b : List PV), Q7o a b = true → a = b
 | [], b, h => by cases b <;> simp [Q7o] at h; rfl
 | x :: r, b, h => by
  cases b with
  | nil => simp [Q7o] at h
  | cons y s =>
   simp only [Q7o, Bool.and_eq_true] at h
   rw [Qkc x y h.1, Q13 r s h.2]
theorem Qd1 : ∀ (a b : List (List PV)), Q99 a b = true → a = b
 | [], b, h => by cases b <;> simp [Q99] at h; rfl
 | x :: r, b, h => by
  cases b with
  | nil => simp [Q99] at h
  | cons y s =>
   simp only [Q99, Bool.and_eq_true] at h
   rw [Q13 x y h.1, Qd1 r s h.2]
end
mutual
def Qek : AV → AV → Bool
 | .p a, .p b => Qb6 a b
 | .ptr a o, .ptr b p => Nat.beq a b && Nat.beq o p
 | .gptr a o, .gptr b p => Nat.beq a b && Nat.beq o p
 | .rptr a, .rptr b => Q7o a b
 | .slice e a o l, .slice e' a' o' l' => Nat.beq e e' && (Nat.beq a a' && (Nat.beq o o' && Nat.beq l l'))
 | .map a, .map b => Nat.beq a b
 | .func (.func f) a b, .func (.func g) c d => Nat.beq f g && (Q8w a c && Q8w b d)
 | .iface t v, .iface t' v' => Nat.beq t t' && Qek v v'
 | .agg a, .agg b => Q8w a b
 | .tuple a, .tuple b => Q8w a b
 | .any, .any => true
 | _, _ => false
def Q8w : List AV → List AV → Bool
 | [], [] => true
 | a :: r, b :: s => Qek a b && Q8w r s
 | _, _ => false
end
mutual
theorem Qkv : ∀ (a b : AV), Qek a b = true → a = b
 | .p a, b, h => by cases b <;> simp [Qek] at h; rw [Qkc _ _ h]
 | .ptr a o, b, h => by cases b <;> simp [Qek] at h; obtain ⟨rfl, rfl⟩ := h; rfl
 | .gptr a o, b, h => by cases b <;> simp [Qek] at h; obtain ⟨rfl, rfl⟩ := h; rfl
 | .rptr a, b, h => by cases b <;> simp [Qek] at h; rw [Q13 _ _ h]
 | .slice e a o l, b, h => by cases b <;> simp [Qek] at h; obtain ⟨rfl, rfl, rfl, rfl⟩ := h; rfl
 | .map a, b, h => by cases b <;> simp [Qek] at h; subst h; rfl
 | .func fn a c, b, h => by
  cases b <;> cases fn <;> try (simp [Qek] at h; done)
  rename_i fn' a' c' f
  cases fn' <;> simp [Qek] at h
  obtain ⟨rfl, h2, h3⟩ := h
  rw [Q2n a _ h2, Q2n c _ h3]
 | .iface t v, b, h => by
  cases b <;> simp [Qek] at h
  obtain ⟨h1, h2⟩ := h
  rw [Qkv v _ h2, h1]
 | .agg a, b, h => by
  cases b <;> simp [Qek] at h
  rw [Q2n a _ h]
 | .tuple a, b, h => by
  cases b <;> simp [Qek] at h
  rw [Q2n a _ h]
 | .any, b, h => by cases b <;> simp [Qek] at h; rfl
theorem Q2n : ∀ (a b : List AV), Q8w a b = true → a = b
 | [], b, h => by cases b <;> simp [Q8w] at h; rfl
 | x :: r, b, h => by
  cases b with
  | nil => simp [Q8w] at h
  | cons y s =>
   simp only [Q8w, Bool.and_eq_true] at h
   rw [Qkv x y h.1, Q2n r s h.2]
end
def Qo8 : AObj → AObj → Bool
 | .cells a, .cells b => Q8w a b
 | .strIter s p, .strIter t q => decide (s = t) && Nat.beq p q
 | .dead, .dead => true
 | _, _ => false
theorem Qm4 (a b : AObj) (h : Qo8 a b = true) : a = b := by
 cases a <;> cases b <;> simp [Qo8] at h
 ·rw [Q2n _ _ h]
 ·obtain ⟨rfl, rfl⟩ := h; rfl
 ·rfl
def Qj0 : List AObj → List AObj → Bool
 | [], _ => true
 | o :: r, o' :: r' => Qo8 o o' && Qj0 r r'
 | _ :: _, [] => false
theorem Qf6 : ∀ (m H : List AObj), Qj0 m H = true → ∃ rest, H = m ++ rest
 | [], H, _ => ⟨H, rfl⟩
 | o :: r, o' :: r', h => by
  simp only [Qj0, Bool.and_eq_true] at h
  obtain ⟨rest, e⟩ := Qf6 r r' h.2
  exact ⟨rest, by rw [Qm4 _ _ h.1, e]; rfl⟩
 | _ :: _, [], h => by simp [Qj0] at h
def Qe4 : Nat → List AObj → AV → List Nat
 | 0, _, _ => []
 | n + 1, H, v => match v with
  | .ptr a _ => a :: refsDo n H (H[a]?)
  | .slice _ a _ _ => a :: refsDo n H (H[a]?)
  | .map a => [a]
  | .func _ a b => a.flatMap (Qe4 n H) ++ b.flatMap (Qe4 n H)
  | .iface _ v => Qe4 n H v
  | .agg cs => cs.flatMap (Qe4 n H)
  | .tuple cs => cs.flatMap (Qe4 n H)
  | _ => []
where refsDo (n : Nat) (H : List AObj) : Option AObj → List Nat
 | some (.cells cs) => cs.flatMap (Qe4 n H)
 | _ => []
end
end Go.Av
