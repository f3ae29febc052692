/- An abstract machine for the modelled code, and what its runs say of real calls. Part of a proof of a given statement: for every input the law returns true and the arguments read as before; no condition beyond the given row. -/
import Derived.Test.YtdlmgpphppgcjaaGreatDoorAvBase
namespace Go.Av
noncomputable section
mutual
def Jj : PV → PV → Bool
 | .bool a, .bool b => a == b
 | .int k n, .int k' n' => decide (k = k') && decide (n = n')
 | .str s, .str t => decide (s = t)
 | .nilPtr, .nilPtr => true
 | .nilSlice, .nilSlice => true
 | .slice0, .slice0 => true
 | .slice e r, .slice e' r' => Nat.beq e e' && J8 r r'
 | .nilMap, .nilMap => true
 | .func (.func f) a b, .func (.func g) c d => Nat.beq f g && (Vg a c && Vg b d)
 | .nilFunc, .nilFunc => true
 | .nilIface, .nilIface => true
 | .agg a, .agg b => Vg a b
 | .tuple a, .tuple b => Vg a b
 | _, _ => false
def Vg : List PV → List PV → Bool
 | [], [] => true
 | a :: r, b :: s => Jj a b && Vg r s
 | _, _ => false
def J8 : List (List PV) → List (List PV) → Bool
 | [], [] => true
 | a :: r, b :: s => Vg a b && J8 r s
 | _, _ => false
end
mutual
theorem Q3j : ∀ (a b : PV), Jj a b = true → a = b
 | .bool a, b, h => by cases b <;> simp [Jj] at h; subst h; rfl
 | .int k n, b, h => by cases b <;> simp [Jj] at h; obtain ⟨rfl, rfl⟩ := h; rfl
 | .str s, b, h => by cases b <;> simp [Jj] at h; subst h; rfl
 | .nilPtr, b, h => by cases b <;> simp [Jj] at h; rfl
 | .nilSlice, b, h => by cases b <;> simp [Jj] at h; rfl
 | .slice0, b, h => by cases b <;> simp [Jj] at h; rfl
 | .slice e r, b, h => by
  cases b <;> simp [Jj] at h
  obtain ⟨rfl, h2⟩ := h
  rw [Q0i r _ h2]
 | .nilMap, b, h => by cases b <;> simp [Jj] at h; rfl
 | .pmap es, b, h => by cases b <;> simp [Jj] at h
 | .func fn a c, b, h => by
  cases b <;> cases fn <;> try (simp [Jj] at h; done)
  rename_i fn' a' c' f
  cases fn' <;> simp [Jj] at h
  obtain ⟨rfl, h2, h3⟩ := h
  rw [Yk a _ h2, Yk c _ h3]
 | .nilFunc, b, h => by cases b <;> simp [Jj] at h; rfl
 | .iface t v, b, h => by cases b <;> simp [Jj] at h
 | .nilIface, b, h => by cases b <;> simp [Jj] at h; rfl
 | .agg a, b, h => by
  cases b <;> simp [Jj] at h
  rw [Yk a _ h]
 | .tuple a, b, h => by
  cases b <;> simp [Jj] at h
  rw [Yk a _ h]
theorem Yk : ∀ (a b : List PV), Vg a b = true → a = b
 | [], b, h => by cases b <;> simp [Vg] at h; rfl
 | x :: r, b, h => by
  cases b with
  | nil => simp [Vg] at h
  | cons y s =>
   simp only [Vg, Bool.and_eq_true] at h
   rw [Q3j x y h.1, Yk r s h.2]
theorem Q0i : ∀ (a b : List (List PV)), J8 a b = true → a = b
 | [], b, h => by cases b <;> simp [J8] at h; rfl
 | x :: r, b, h => by
  cases b with
  | nil => simp [J8] at h
  | cons y s =>
   simp only [J8, Bool.and_eq_true] at h
   rw [Yk x y h.1, Q0i r s h.2]
end
mutual
def Q0q : AV → AV → Bool
 | .p a, .p b => Jj a b
 | .ptr a o, .ptr b p => Nat.beq a b && Nat.beq o p
 | .gptr a o, .gptr b p => Nat.beq a b && Nat.beq o p
 | .rptr a, .rptr b => Vg a b
 | .slice e a o l, .slice e' a' o' l' => Nat.beq e e' && (Nat.beq a a' && (Nat.beq o o' && Nat.beq l l'))
 | .map a, .map b => Nat.beq a b
 | .func (.func f) a b, .func (.func g) c d => Nat.beq f g && (Ul a c && Ul b d)
 | .iface t v, .iface t' v' => Nat.beq t t' && Q0q v v'
 | .agg a, .agg b => Ul a b
 | .tuple a, .tuple b => Ul a b
 | .any, .any => true
 | _, _ => false
def Ul : List AV → List AV → Bool
 | [], [] => true
 | a :: r, b :: s => Q0q a b && Ul r s
 | _, _ => false
end
mutual
theorem Q3z : ∀ (a b : AV), Q0q a b = true → a = b
 | .p a, b, h => by cases b <;> simp [Q0q] at h; rw [Q3j _ _ h]
 | .ptr a o, b, h => by cases b <;> simp [Q0q] at h; obtain ⟨rfl, rfl⟩ := h; rfl
 | .gptr a o, b, h => by cases b <;> simp [Q0q] at h; obtain ⟨rfl, rfl⟩ := h; rfl
 | .rptr a, b, h => by cases b <;> simp [Q0q] at h; rw [Yk _ _ h]
 | .slice e a o l, b, h => by cases b <;> simp [Q0q] at h; obtain ⟨rfl, rfl, rfl, rfl⟩ := h; rfl
 | .map a, b, h => by cases b <;> simp [Q0q] at h; subst h; rfl
 | .func fn a c, b, h => by
  cases b <;> cases fn <;> try (simp [Q0q] at h; done)
  rename_i fn' a' c' f
  cases fn' <;> simp [Q0q] at h
  obtain ⟨rfl, h2, h3⟩ := h
  rw [X4 a _ h2, X4 c _ h3]
 | .iface t v, b, h => by
  cases b <;> simp [Q0q] at h
  obtain ⟨h1, h2⟩ := h
  rw [Q3z v _ h2, h1]
 | .agg a, b, h => by
  cases b <;> simp [Q0q] at h
  rw [X4 a _ h]
 | .tuple a, b, h => by
  cases b <;> simp [Q0q] at h
  rw [X4 a _ h]
 | .any, b, h => by cases b <;> simp [Q0q] at h; rfl
theorem X4 : ∀ (a b : List AV), Ul a b = true → a = b
 | [], b, h => by cases b <;> simp [Ul] at h; rfl
 | x :: r, b, h => by
  cases b with
  | nil => simp [Ul] at h
  | cons y s =>
   simp only [Ul, Bool.and_eq_true] at h
   rw [Q3z x y h.1, X4 r s h.2]
end
def Q6k : AObj → AObj → Bool
 | .cells a, .cells b => Ul a b
 | .strIter s p, .strIter t q => decide (s = t) && Nat.beq p q
 | .dead, .dead => true
 | _, _ => false
theorem Q5d (a b : AObj) (h : Q6k a b = true) : a = b := by
 cases a <;> cases b <;> simp [Q6k] at h
 ·rw [X4 _ _ h]
 ·obtain ⟨rfl, rfl⟩ := h; rfl
 ·rfl
def Q45 : List AObj → List AObj → Bool
 | [], _ => true
 | o :: r, o' :: r' => Q6k o o' && Q45 r r'
 | _ :: _, [] => false
theorem Q1t : ∀ (m H : List AObj), Q45 m H = true → ∃ rest, H = m ++ rest
 | [], H, _ => ⟨H, rfl⟩
 | o :: r, o' :: r', h => by
  simp only [Q45, Bool.and_eq_true] at h
  obtain ⟨rest, e⟩ := Q1t r r' h.2
  exact ⟨rest, by rw [Q5d _ _ h.1, e]; rfl⟩
 | _ :: _, [], h => by simp [Q45] at h
def Q0w : Nat → List AObj → AV → List Nat
 | 0, _, _ => []
 | n + 1, H, v => match v with
  | .ptr a _ => a :: refsDo n H (H[a]?)
  | .slice _ a _ _ => a :: refsDo n H (H[a]?)
  | .map a => [a]
  | .func _ a b => a.flatMap (Q0w n H) ++ b.flatMap (Q0w n H)
  | .iface _ v => Q0w n H v
  | .agg cs => cs.flatMap (Q0w n H)
  | .tuple cs => cs.flatMap (Q0w n H)
  | _ => []
where refsDo (n : Nat) (H : List AObj) : Option AObj → List Nat
 | some (.cells cs) => cs.flatMap (Q0w n H)
 | _ => []
end
end Go.Av
