/- An abstract machine for the modelled code, and what its runs say of real calls. Part of a proof of a given statement: for every input the law returns true and the arguments read as before; no condition beyond the given row. -/
import Derived.Test.YtkemhhfbpniioaaGreatDoorAvBase
namespace Go.Av
noncomputable section
mutual
def Qbn : PV → PV → Bool
 | .bool a, .bool b => a == b
 | .int k n, .int k' n' => decide (k = k') && decide (n = n')
 | .str s, .str t => decide (s = t)
 | .nilPtr, .nilPtr => true
 | .nilSlice, .nilSlice => true
 | .slice e r, .slice e' r' => Nat.beq e e' && Q9d r r'
 | .nilMap, .nilMap => true
 | .func (.func f) a b, .func (.func g) c d => Nat.beq f g && (Q81 a c && Q81 b d)
 | .nilFunc, .nilFunc => true
 | .nilIface, .nilIface => true
 | .agg a, .agg b => Q81 a b
 | .tuple a, .tuple b => Q81 a b
 | _, _ => false
def Q81 : List PV → List PV → Bool
 | [], [] => true
 | a :: r, b :: s => Qbn a b && Q81 r s
 | _, _ => false
def Q9d : List (List PV) → List (List PV) → Bool
 | [], [] => true
 | a :: r, b :: s => Q81 a b && Q9d r s
 | _, _ => false
end
mutual
theorem Ql2 : ∀ (a b : PV), Qbn a b = true → a = b
 | .bool a, b, h => by cases b <;> simp [Qbn] at h; subst h; rfl
 | .int k n, b, h => by cases b <;> simp [Qbn] at h; obtain ⟨rfl, rfl⟩ := h; rfl
 | .str s, b, h => by cases b <;> simp [Qbn] at h; subst h; rfl
 | .nilPtr, b, h => by cases b <;> simp [Qbn] at h; rfl
 | .nilSlice, b, h => by cases b <;> simp [Qbn] at h; rfl
 | .slice e r, b, h => by
  cases b <;> simp [Qbn] at h
  obtain ⟨rfl, h2⟩ := h
  rw [Qby r _ h2]
 | .nilMap, b, h => by cases b <;> simp [Qbn] at h; rfl
 | .pmap es, b, h => by cases b <;> simp [Qbn] at h
 | .func fn a c, b, h => by
  cases b <;> cases fn <;> try (simp [Qbn] at h; done)
  rename_i fn' a' c' f
  cases fn' <;> simp [Qbn] at h
  obtain ⟨rfl, h2, h3⟩ := h
  rw [Q0m a _ h2, Q0m c _ h3]
 | .nilFunc, b, h => by cases b <;> simp [Qbn] at h; rfl
 | .iface t v, b, h => by cases b <;> simp [Qbn] at h
 | .nilIface, b, h => by cases b <;> simp [Qbn] at h; rfl
 | .agg a, b, h => by
  cases b <;> simp [Qbn] at h
  rw [Q0m a _ h]
 | .tuple a, b, h => by
  cases b <;> simp [Qbn] at h
  rw [Q0m a _ h]
theorem Q0m : ∀ (a b : List PV), Q81 a b = true → a = b
 | [], b, h => by cases b <;> simp [Q81] at h; rfl
 | x :: r, b, h => by
  cases b with
  | nil => simp [Q81] at h
  | cons y s =>
   simp only [Q81, Bool.and_eq_true] at h
   rw [Ql2 x y h.1, Q0m r s h.2]
theorem Qby : ∀ (a b : List (List PV)), Q9d a b = true → a = b
 | [], b, h => by cases b <;> simp [Q9d] at h; rfl
 | x :: r, b, h => by
  cases b with
  | nil => simp [Q9d] at h
  | cons y s =>
   simp only [Q9d, Bool.and_eq_true] at h
   rw [Q0m x y h.1, Qby r s h.2]
end
mutual
def Qep : AV → AV → Bool
 | .p a, .p b => Qbn a b
 | .ptr a o, .ptr b p => Nat.beq a b && Nat.beq o p
 | .gptr a o, .gptr b p => Nat.beq a b && Nat.beq o p
 | .rptr a, .rptr b => Q81 a b
 | .slice e a o l, .slice e' a' o' l' => Nat.beq e e' && (Nat.beq a a' && (Nat.beq o o' && Nat.beq l l'))
 | .map a, .map b => Nat.beq a b
 | .func (.func f) a b, .func (.func g) c d => Nat.beq f g && (Q8y a c && Q8y b d)
 | .iface t v, .iface t' v' => Nat.beq t t' && Qep v v'
 | .agg a, .agg b => Q8y a b
 | .tuple a, .tuple b => Q8y a b
 | .any, .any => true
 | _, _ => false
def Q8y : List AV → List AV → Bool
 | [], [] => true
 | a :: r, b :: s => Qep a b && Q8y r s
 | _, _ => false
end
mutual
theorem Qkl : ∀ (a b : AV), Qep a b = true → a = b
 | .p a, b, h => by cases b <;> simp [Qep] at h; rw [Ql2 _ _ h]
 | .ptr a o, b, h => by cases b <;> simp [Qep] at h; obtain ⟨rfl, rfl⟩ := h; rfl
 | .gptr a o, b, h => by cases b <;> simp [Qep] at h; obtain ⟨rfl, rfl⟩ := h; rfl
 | .rptr a, b, h => by cases b <;> simp [Qep] at h; rw [Q0m _ _ h]
 | .slice e a o l, b, h => by cases b <;> simp [Qep] at h; obtain ⟨rfl, rfl, rfl, rfl⟩ := h; rfl
 | .map a, b, h => by cases b <;> simp [Qep] at h; subst h; rfl
 | .func fn a c, b, h => by
  cases b <;> cases fn <;> try (simp [Qep] at h; done)
  rename_i fn' a' c' f
  cases fn' <;> simp [Qep] at h
  obtain ⟨rfl, h2, h3⟩ := h
  rw [Q2f a _ h2, Q2f c _ h3]
 | .iface t v, b, h => by
  cases b <;> simp [Qep] at h
  obtain ⟨h1, h2⟩ := h
  rw [Qkl v _ h2, h1]
 | .agg a, b, h => by
  cases b <;> simp [Qep] at h
  rw [Q2f a _ h]
 | .tuple a, b, h => by
  cases b <;> simp [Qep] at h
  rw [Q2f a _ h]
 | .any, b, h => by cases b <;> simp [Qep] at h; rfl
theorem Q2f : ∀ (a b : List AV), Q8y a b = true → a = b
 | [], b, h => by cases b <;> simp [Q8y] at h; rfl
 | x :: r, b, h => by
  cases b with
  | nil => simp [Q8y] at h
  | cons y s =>
   simp only [Q8y, Bool.and_eq_true] at h
   rw [Qkl x y h.1, Q2f r s h.2]
end
def Qpi : AObj → AObj → Bool
 | .cells a, .cells b => Q8y a b
 | .strIter s p, .strIter t q => decide (s = t) && Nat.beq p q
 | .dead, .dead => true
 | _, _ => false
theorem Qmw (a b : AObj) (h : Qpi a b = true) : a = b := by
 cases a <;> cases b <;> simp [Qpi] at h
 ·rw [Q2f _ _ h]
 ·obtain ⟨rfl, rfl⟩ := h; rfl
 ·rfl
def Qkr : List AObj → List AObj → Bool
 | [], _ => true
 | o :: r, o' :: r' => Qpi o o' && Qkr r r'
 | _ :: _, [] => false
theorem Qf4 : ∀ (m H : List AObj), Qkr m H = true → ∃ rest, H = m ++ rest
 | [], H, _ => ⟨H, rfl⟩
 | o :: r, o' :: r', h => by
  simp only [Qkr, Bool.and_eq_true] at h
  obtain ⟨rest, e⟩ := Qf4 r r' h.2
  exact ⟨rest, by rw [Qmw _ _ h.1, e]; rfl⟩
 | _ :: _, [], h => by simp [Qkr] at h
def Qe7 : Nat → List AObj → AV → List Nat
 | 0, _, _ => []
 | n + 1, H, v => match v with
  | .ptr a _ => a :: refsDo n H (H[a]?)
  | .slice _ a _ _ => a :: refsDo n H (H[a]?)
  | .map a => [a]
  | .func _ a b => a.flatMap (Qe7 n H) ++ b.flatMap (Qe7 n H)
  | .iface _ v => Qe7 n H v
  | .agg cs => cs.flatMap (Qe7 n H)
  | .tuple cs => cs.flatMap (Qe7 n H)
  | _ => []
where refsDo (n : Nat) (H : List AObj) : Option AObj → List Nat
 | some (.cells cs) => cs.flatMap (Qe7 n H)
 | _ => []
end
end Go.Av
