/- An abstract machine for the modelled code, and what its runs say of real calls. Part of a proof of a given statement: for every input the law returns true and the arguments read as before; no condition beyond the given row. -/
import Derived.Test.YtegedmcbfmfjeaaGreatDoorAvBase
namespace Go.Av
noncomputable section
mutual
def Qb8 : PV → PV → Bool
 | .bool a, .bool b => a == b
 | .int k n, .int k' n' => decide (k = k') && decide (n = n')
 | .str s, .str t => decide (s = t)
 | .nilPtr, .nilPtr => true
 | .nilSlice, .nilSlice => true
 | .slice e r, .slice e' r' => Nat.beq e e' && Q9g r r'
 | .nilMap, .nilMap => true
 | .func (.func f) a b, .func (.func g) c d => Nat.beq f g && (Q87 a c && Q87 b d)
 | .nilFunc, .nilFunc => true
 | .nilIface, .nilIface => true
 | .agg a, .agg b => Q87 a b
 | .tuple a, .tuple b => Q87 a b
 | _, _ => false
def Q87 : List PV → List PV → Bool
 | [], [] => true
 | a :: r, b :: s => Qb8 a b && Q87 r s
 | _, _ => false
def Q9g : List (List PV) → List (List PV) → Bool
 | [], [] => true
 | a :: r, b :: s => Q87 a b && Q9g r s
 | _, _ => false
end
mutual
theorem Qji : ∀ (a b : PV), Qb8 a b = true → a = b
 | .bool a, b, h => by cases b <;> simp [Qb8] at h; subst h; rfl
 | .int k n, b, h => by cases b <;> simp [Qb8] at h; obtain ⟨rfl, rfl⟩ := h; rfl
 | .str s, b, h => by cases b <;> simp [Qb8] at h; subst h; rfl
 | .nilPtr, b, h => by cases b <;> simp [Qb8] at h; rfl
 | .nilSlice, b, h => by cases b <;> simp [Qb8] at h; rfl
 | .slice e r, b, h => by
  cases b <;> simp [Qb8] at h
  obtain ⟨rfl, h2⟩ := h
  rw [Qc3 r _ h2]
 | .nilMap, b, h => by cases b <;> simp [Qb8] at h; rfl
 | .pmap es, b, h => by cases b <;> simp [Qb8] at h
 | .func fn a c, b, h => by
  cases b <;> cases fn <;> try (simp [Qb8] at h; done)
  rename_i fn' a' c' f
  cases fn' <;> simp [Qb8] at h
  obtain ⟨rfl, h2, h3⟩ := h
  rw [Q1f a _ h2, Q1f c _ h3]
 | .nilFunc, b, h => by cases b <;> simp [Qb8] at h; rfl
 | .iface t v, b, h => by cases b <;> simp [Qb8] at h
 | .nilIface, b, h => by cases b <;> simp [Qb8] at h; rfl
 | .agg a, b, h => by
  cases b <;> simp [Qb8] at h
  rw [Q1f a _ h]
 | .tuple a, b, h => by
  cases b <;> simp [Qb8] at h
  rw [Q1f a _ h]
theorem Q1f : ∀ (a b : List PV), Q87 a b = true → a = b
 | [], b, h => by cases b <;> simp [Q87] at h; rfl
 | x :: r, b, h => by
  cases b with
  | nil => simp [Q87] at h
  | cons y s =>
   simp only [Q87, Bool.and_eq_true] at h
   rw [Qji x y h.1, Q1f r s h.2]
theorem Qc3 : ∀ (a b : List (List PV)), Q9g a b = true → a = b
 | [], b, h => by cases b <;> simp [Q9g] at h; rfl
 | x :: r, b, h => by
  cases b with
  | nil => simp [Q9g] at h
  | cons y s =>
   simp only [Q9g, Bool.and_eq_true] at h
   rw [Q1f x y h.1, Qc3 r s h.2]
end
mutual
def Qe4 : AV → AV → Bool
 | .p a, .p b => Qb8 a b
 | .ptr a o, .ptr b p => Nat.beq a b && Nat.beq o p
 | .gptr a o, .gptr b p => Nat.beq a b && Nat.beq o p
 | .rptr a, .rptr b => Q87 a b
 | .slice e a o l, .slice e' a' o' l' => Nat.beq e e' && (Nat.beq a a' && (Nat.beq o o' && Nat.beq l l'))
 | .map a, .map b => Nat.beq a b
 | .func (.func f) a b, .func (.func g) c d => Nat.beq f g && (Q8k a c && Q8k b d)
 | .iface t v, .iface t' v' => Nat.beq t t' && Qe4 v v'
 | .agg a, .agg b => Q8k a b
 | .tuple a, .tuple b => Q8k a b
 | .any, .any => true
 | _, _ => false
def Q8k : List AV → List AV → Bool
 | [], [] => true
 | a :: r, b :: s => Qe4 a b && Q8k r s
 | _, _ => false
end
mutual
theorem Qjf : ∀ (a b : AV), Qe4 a b = true → a = b
 | .p a, b, h => by cases b <;> simp [Qe4] at h; rw [Qji _ _ h]
 | .ptr a o, b, h => by cases b <;> simp [Qe4] at h; obtain ⟨rfl, rfl⟩ := h; rfl
 | .gptr a o, b, h => by cases b <;> simp [Qe4] at h; obtain ⟨rfl, rfl⟩ := h; rfl
 | .rptr a, b, h => by cases b <;> simp [Qe4] at h; rw [Q1f _ _ h]
 | .slice e a o l, b, h => by cases b <;> simp [Qe4] at h; obtain ⟨rfl, rfl, rfl, rfl⟩ := h; rfl
 | .map a, b, h => by cases b <;> simp [Qe4] at h; subst h; rfl
 | .func fn a c, b, h => by
  cases b <;> cases fn <;> try (simp [Qe4] at h; done)
  rename_i fn' a' c' f
  cases fn' <;> simp [Qe4] at h
  obtain ⟨rfl, h2, h3⟩ := h
  rw [Q2r a _ h2, Q2r c _ h3]
 | .iface t v, b, h => by
  cases b <;> simp [Qe4] at h
  obtain ⟨h1, h2⟩ := h
  rw [Qjf v _ h2, h1]
 | .agg a, b, h => by
  cases b <;> simp [Qe4] at h
  rw [Q2r a _ h]
 | .tuple a, b, h => by
  cases b <;> simp [Qe4] at h
  rw [Q2r a _ h]
 | .any, b, h => by cases b <;> simp [Qe4] at h; rfl
theorem Q2r : ∀ (a b : List AV), Q8k a b = true → a = b
 | [], b, h => by cases b <;> simp [Q8k] at h; rfl
 | x :: r, b, h => by
  cases b with
  | nil => simp [Q8k] at h
  | cons y s =>
   simp only [Q8k, Bool.and_eq_true] at h
   rw [Qjf x y h.1, Q2r r s h.2]
end
def Qng : AObj → AObj → Bool
 | .cells a, .cells b => Q8k a b
 | .strIter s p, .strIter t q => decide (s = t) && Nat.beq p q
 | .dead, .dead => true
 | _, _ => false
theorem Qlm (a b : AObj) (h : Qng a b = true) : a = b := by
 cases a <;> cases b <;> simp [Qng] at h
 ·rw [Q2r _ _ h]
 ·obtain ⟨rfl, rfl⟩ := h; rfl
 ·rfl
def Qk4 : List AObj → List AObj → Bool
 | [], _ => true
 | o :: r, o' :: r' => Qng o o' && Qk4 r r'
 | _ :: _, [] => false
theorem Qet : ∀ (m H : List AObj), Qk4 m H = true → ∃ rest, H = m ++ rest
 | [], H, _ => ⟨H, rfl⟩
 | o :: r, o' :: r', h => by
  simp only [Qk4, Bool.and_eq_true] at h
  obtain ⟨rest, e⟩ := Qet r r' h.2
  exact ⟨rest, by rw [Qlm _ _ h.1, e]; rfl⟩
 | _ :: _, [], h => by simp [Qk4] at h
def Qdi : Nat → List AObj → AV → List Nat
 | 0, _, _ => []
 | n + 1, H, v => match v with
  | .ptr a _ => a :: refsDo n H (H[a]?)
  | .slice _ a _ _ => a :: refsDo n H (H[a]?)
  | .map a => [a]
  | .func _ a b => a.flatMap (Qdi n H) ++ b.flatMap (Qdi n H)
  | .iface _ v => Qdi n H v
  | .agg cs => cs.flatMap (Qdi n H)
  | .tuple cs => cs.flatMap (Qdi n H)
  | _ => []
where refsDo (n : Nat) (H : List AObj) : Option AObj → List Nat
 | some (.cells cs) => cs.flatMap (Qdi n H)
 | _ => []
end
end Go.Av
