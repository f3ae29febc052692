/- An abstract machine for the modelled code, and what its runs say of real calls. Part of a proof of a given statement: for every input the law returns true and the arguments read as before; no condition beyond the given row. -/
import Derived.Test.YtegedmcbfmfjeaaDoorAvBase
namespace Go.Av
noncomputable section
mutual
def Q7w : PV → PV → Bool
 | .bool a, .bool b => a == b
 | .int k n, .int k' n' => decide (k = k') && decide (n = n')
 | .str s, .str t => decide (s = t)
 | .nilPtr, .nilPtr => true
 | .nilSlice, .nilSlice => true
 | .slice e r, .slice e' r' => Nat.beq e e' && Q5q r r'
 | .nilMap, .nilMap => true
 | .func (.func f) a b, .func (.func g) c d => Nat.beq f g && (Q4b a c && Q4b b d)
 | .nilFunc, .nilFunc => true
 | .nilIface, .nilIface => true
 | .agg a, .agg b => Q4b a b
 | .tuple a, .tuple b => Q4b a b
 | _, _ => false
def Q4b : List PV → List PV → Bool
 | [], [] => true
 | a :: r, b :: s => Q7w a b && Q4b r s
 | _, _ => false
def Q5q : List (List PV) → List (List PV) → Bool
 | [], [] => true
 | a :: r, b :: s => Q4b a b && Q5q r s
 | _, _ => false
end
mutual
theorem Qdw : ∀ (a b : PV), Q7w a b = true → a = b
 | .bool a, b, h => by cases b <;> simp [Q7w] at h; subst h; rfl
 | .int k n, b, h => by cases b <;> simp [Q7w] at h; obtain ⟨rfl, rfl⟩ := h; rfl
 | .str s, b, h => by cases b <;> simp [Q7w] at h; subst h; rfl
 | .nilPtr, b, h => by cases b <;> simp [Q7w] at h; rfl
 | .nilSlice, b, h => by cases b <;> simp [Q7w] at h; rfl
 | .slice e r, b, h => by
  cases b <;> simp [Q7w] at h
  obtain ⟨rfl, h2⟩ := h
  rw [Q8e r _ h2]
 | .nilMap, b, h => by cases b <;> simp [Q7w] at h; rfl
 | .pmap es, b, h => by cases b <;> simp [Q7w] at h
 | .func fn a c, b, h => by
  cases b <;> cases fn <;> try (simp [Q7w] at h; done)
  rename_i fn' a' c' f
  cases fn' <;> simp [Q7w] at h
  obtain ⟨rfl, h2, h3⟩ := h
  rw [Jt a _ h2, Jt c _ h3]
 | .nilFunc, b, h => by cases b <;> simp [Q7w] at h; rfl
 | .iface t v, b, h => by cases b <;> simp [Q7w] at h
 | .nilIface, b, h => by cases b <;> simp [Q7w] at h; rfl
 | .agg a, b, h => by
  cases b <;> simp [Q7w] at h
  rw [Jt a _ h]
 | .tuple a, b, h => by
  cases b <;> simp [Q7w] at h
  rw [Jt a _ h]
theorem Jt : ∀ (a b : List PV), Q4b a b = true → a = b
 | [], b, h => by cases b <;> simp [Q4b] at h; rfl
 | x :: r, b, h => by
  cases b with
  | nil => simp [Q4b] at h
  | cons y s =>
   simp only [Q4b, Bool.and_eq_true] at h
   rw [Qdw x y h.1, Jt r s h.2]
theorem Q8e : ∀ (a b : List (List PV)), Q5q a b = true → a = b
 | [], b, h => by cases b <;> simp [Q5q] at h; rfl
 | x :: r, b, h => by
  cases b with
  | nil => simp [Q5q] at h
  | cons y s =>
   simp only [Q5q, Bool.and_eq_true] at h
   rw [Jt x y h.1, Q8e r s h.2]
end
mutual
def Qaq : AV → AV → Bool
 | .p a, .p b => Q7w a b
 | .ptr a o, .ptr b p => Nat.beq a b && Nat.beq o p
 | .gptr a o, .gptr b p => Nat.beq a b && Nat.beq o p
 | .rptr a, .rptr b => Q4b a b
 | .slice e a o l, .slice e' a' o' l' => Nat.beq e e' && (Nat.beq a a' && (Nat.beq o o' && Nat.beq l l'))
 | .map a, .map b => Nat.beq a b
 | .func (.func f) a b, .func (.func g) c d => Nat.beq f g && (Q5g a c && Q5g b d)
 | .iface t v, .iface t' v' => Nat.beq t t' && Qaq v v'
 | .agg a, .agg b => Q5g a b
 | .tuple a, .tuple b => Q5g a b
 | .any, .any => true
 | _, _ => false
def Q5g : List AV → List AV → Bool
 | [], [] => true
 | a :: r, b :: s => Qaq a b && Q5g r s
 | _, _ => false
end
mutual
theorem Qfy : ∀ (a b : AV), Qaq a b = true → a = b
 | .p a, b, h => by cases b <;> simp [Qaq] at h; rw [Qdw _ _ h]
 | .ptr a o, b, h => by cases b <;> simp [Qaq] at h; obtain ⟨rfl, rfl⟩ := h; rfl
 | .gptr a o, b, h => by cases b <;> simp [Qaq] at h; obtain ⟨rfl, rfl⟩ := h; rfl
 | .rptr a, b, h => by cases b <;> simp [Qaq] at h; rw [Jt _ _ h]
 | .slice e a o l, b, h => by cases b <;> simp [Qaq] at h; obtain ⟨rfl, rfl, rfl, rfl⟩ := h; rfl
 | .map a, b, h => by cases b <;> simp [Qaq] at h; subst h; rfl
 | .func fn a c, b, h => by
  cases b <;> cases fn <;> try (simp [Qaq] at h; done)
  rename_i fn' a' c' f
  cases fn' <;> simp [Qaq] at h
  obtain ⟨rfl, h2, h3⟩ := h
  rw [Q03 a _ h2, Q03 c _ h3]
 | .iface t v, b, h => by
  cases b <;> simp [Qaq] at h
  obtain ⟨h1, h2⟩ := h
  rw [Qfy v _ h2, h1]
 | .agg a, b, h => by
  cases b <;> simp [Qaq] at h
  rw [Q03 a _ h]
 | .tuple a, b, h => by
  cases b <;> simp [Qaq] at h
  rw [Q03 a _ h]
 | .any, b, h => by cases b <;> simp [Qaq] at h; rfl
theorem Q03 : ∀ (a b : List AV), Q5g a b = true → a = b
 | [], b, h => by cases b <;> simp [Q5g] at h; rfl
 | x :: r, b, h => by
  cases b with
  | nil => simp [Q5g] at h
  | cons y s =>
   simp only [Q5g, Bool.and_eq_true] at h
   rw [Qfy x y h.1, Q03 r s h.2]
end
def Qin : AObj → AObj → Bool
 | .cells a, .cells b => Q5g a b
 | .strIter s p, .strIter t q => decide (s = t) && Nat.beq p q
 | .dead, .dead => true
 | _, _ => false
theorem Qgg (a b : AObj) (h : Qin a b = true) : a = b := by
 cases a <;> cases b <;> simp [Qin] at h
 ·rw [Q03 _ _ h]
 ·obtain ⟨rfl, rfl⟩ := h; rfl
 ·rfl
def Qde : List AObj → List AObj → Bool
 | [], _ => true
 | o :: r, o' :: r' => Qin o o' && Qde r r'
 | _ :: _, [] => false
theorem Qbf : ∀ (m H : List AObj), Qde m H = true → ∃ rest, H = m ++ rest
 | [], H, _ => ⟨H, rfl⟩
 | o :: r, o' :: r', h => by
  simp only [Qde, Bool.and_eq_true] at h
  obtain ⟨rest, e⟩ := Qbf r r' h.2
  exact ⟨rest, by rw [Qgg _ _ h.1, e]; rfl⟩
 | _ :: _, [], h => by simp [Qde] at h
def Qan : Nat → List AObj → AV → List Nat
 | 0, _, _ => []
 | n + 1, H, v => match v with
  | .ptr a _ => a :: refsDo n H (H[a]?)
  | .slice _ a _ _ => a :: refsDo n H (H[a]?)
  | .map a => [a]
  | .func _ a b => a.flatMap (Qan n H) ++ b.flatMap (Qan n H)
  | .iface _ v => Qan n H v
  | .agg cs => cs.flatMap (Qan n H)
  | .tuple cs => cs.flatMap (Qan n H)
  | _ => []
where refsDo (n : Nat) (H : List AObj) : Option AObj → List Nat
 | some (.cells cs) => cs.flatMap (Qan n H)
 | _ => []
end
end Go.Av
